/- A walk engine over abstract states, and the contracts of the functions that the statement reaches: part 5. -/
import Derived.Test.YtldnaopmkgikkaaWd
set_option linter.unusedVariables false
set_option linter.unusedSimpArgs false
namespace Go.Ab
open Go.RowKit Go.Proofs
set_option maxHeartbeats 4000000
set_option maxRecDepth 20000
attribute [local irreducible] WalkL Walk

/-- Up to which path of a route the party can turn back. -/
def turnF (n : Net) (p : Party) (by1 : List Int) : List Int → Int → Nat → Int
  | [], _, k => k
  | v :: r, t, k => if arriveF (pathAt n v).opens t (spanW (pathAt n v) p).hi > getI by1 (pathAt n v).to then k else turnF n p by1 r (arriveF (pathAt n v).opens t (spanW (pathAt n v) p).hi) (k + 1)
def turnL (n : Net) (p : Party) (route : List Int) (frm start home deadline : Int) : Int × Int :=
  if openF n p [frm, home] [start, deadline] = 0 then
    if isRouteB n p frm route then
      if start > getI (deadlinesL n p home deadline) frm then (-1, 0) else (turnF n p (deadlinesL n p home deadline) route start 0, 0)
    else (0, 12)
  else (0, openF n p [frm, home] [start, deadline])

theorem walkR_on {n : Net} {p : Party} : ∀ {l : List Int} {f : Int}, (walkR n p f l).isSome = true → ∀ v ∈ l, onNet n v
  | [], _, _, _, h => by cases h
  | a :: l, f, hs, v, hv => by
    have hs' : (l.foldl (fun s i => s.bind fun g => onB n p g i) (onB n p f a)).isSome = true := hs
    cases ho : onB n p f a with
    | none => rw [ho, walkR_none] at hs'; cases hs'
    | some g =>
      rw [ho] at hs'
      rcases List.mem_cons.1 hv with rfl | hv
      · unfold onB at ho
        split at ho
        · rename_i hw
          obtain ⟨h1, h2⟩ := within_iff.1 hw
          exact ⟨h1, by omega⟩
        · cases ho
      · exact walkR_on (f := g) hs' v hv

theorem isRoute_on {n : Net} {p : Party} {l : List Int} {f : Int} (h : isRouteB n p f l = true) : ∀ v ∈ l, onNet n v := by
  unfold isRouteB at h
  exact walkR_on (Bool.and_eq_true_iff.1 h).1

theorem f34 (n : Net) (p : Party) (route : List Int) (frm start home deadline : Int) (hs : n.Small) (hr : route.length < 2 ^ 30) : Fn Try.prog 34 [.agg n.cells, .agg p.cells, .sl (intRows route), .i frm, .i start, .i home, .i deadline]
    (.tup [.i (turnL n p route frm start home deadline).1, .i (turnL n p route frm start home deadline).2]) := by
  have h41 := f41 n p [frm, home] [start, deadline] hs (by simp) (by simp)
  have h78 := f78 n p route frm hs.paths hr
  refine fn_walk 87 Try.call34 Try.func34 rfl (by decide) fun J => ?_
  simp (maxSteps := 4000000) only [go_sem, St.start, Try.ntmps34, Try.results34, Net.cells, Party.cells]
  by_cases hop : openF n p [frm, home] [start, deadline] = 0
  · by_cases hro : isRouteB n p frm route = true
    · have ho := open_iff.1 hop
      have hfr := ho.place frm (by simp)
      have hto := ho.place home (by simp)
      have hpl := ho.net.places
      have h54 := f54 n p home deadline ho.net.ok ho.net.hi hto
      obtain ⟨D, hD⟩ : ∃ D, D = deadlinesL n p home deadline := ⟨_, rfl⟩
      have hlen : D.length = n.places.toNat := hD ▸ deadlines_len n p home deadline
      rw [← hD] at h54
      have hg : (intRows D)[frm.toNat]? = some [.i (getI D frm)] := intRows_get hfr.1 (by omega)
      have hlt0 : frm.toNat < (intRows D).length := by rw [intRows_len]; omega
      repeat (first | refine walkL_seq ?_ | refine walkL_skip ?_ | refine walkL_block ?_ | (refine walkL_region fun K hK => ?_; simp (maxSteps := 4000000) only [go_sem, walkCells, hop, hro]; (repeat (first | (refine ⟨_, .lent (hf := h41) (hd := rfl) (hr := rfl), ?_⟩; simp (maxSteps := 4000000) only [go_sem, walkCells, hop, hro]) | (refine ⟨_, .lent (hf := h78) (hd := rfl) (hr := rfl), ?_⟩; simp (maxSteps := 4000000) only [go_sem, walkCells, hop, hro]) | (refine ⟨_, .given (hf := h41) (hd := rfl) (ha := rfl), ?_⟩; simp (maxSteps := 4000000) only [go_sem, walkCells, hop, hro]) | (refine ⟨_, .given (hf := h78) (hd := rfl) (ha := rfl), ?_⟩; simp (maxSteps := 4000000) only [go_sem, walkCells, hop, hro]))); refine hK _ ?_; clear hK K) | refine walkL_nil ?_ | refine walkL_ret ?_ | refine walkL_exit ?_ | refine blockA_here ?_ | refine blockA_other rfl ?_ | refine blockA_ret ?_ | refine blockA_normal ?_ | refine thenA_ret ?_ | refine thenA_exit ?_ | refine thenA_normal ?_)
      refine walkL_false rfl ?_
      repeat (first | refine walkL_seq ?_ | refine walkL_skip ?_ | refine walkL_block ?_ | (refine walkL_region fun K hK => ?_; simp (maxSteps := 4000000) only [go_sem]; refine hK _ ?_; clear hK K) | refine walkL_nil ?_ | refine walkL_ret ?_ | refine walkL_exit ?_ | refine blockA_here ?_ | refine blockA_other rfl ?_ | refine blockA_ret ?_ | refine blockA_normal ?_ | refine thenA_ret ?_ | refine thenA_exit ?_ | refine thenA_normal ?_)
      refine walkL_false rfl ?_
      repeat (first | refine walkL_seq ?_ | refine walkL_skip ?_ | refine walkL_block ?_ | (refine walkL_region fun K hK => ?_; simp (maxSteps := 4000000) only [go_sem]; refine hK _ ?_; clear hK K) | refine walkL_nil ?_ | refine walkL_ret ?_ | refine walkL_exit ?_ | refine blockA_here ?_ | refine blockA_other rfl ?_ | refine blockA_ret ?_ | refine blockA_normal ?_ | refine thenA_ret ?_ | refine thenA_exit ?_ | refine thenA_normal ?_)
      refine walkL_region fun K hK => ?_
      simp (maxSteps := 4000000) only [go_sem]
      refine ⟨_, .lentS (hdst := rfl) (hf := h54) (hd := rfl) (hr := rowsFlat_int _) (hfr := rfl), ?_⟩
      simp (maxSteps := 4000000) only [go_sem]
      refine hK _ ?_
      clear hK K
      repeat (first | refine walkL_seq ?_ | refine walkL_skip ?_ | refine walkL_block ?_ | (refine walkL_region fun K hK => ?_; simp (maxSteps := 4000000) only [go_sem, hg, hlt0, hfr.1]; refine hK _ ?_; clear hK K) | refine walkL_nil ?_ | refine walkL_ret ?_ | refine walkL_exit ?_ | refine blockA_here ?_ | refine blockA_other rfl ?_ | refine blockA_ret ?_ | refine blockA_normal ?_ | refine thenA_ret ?_ | refine thenA_exit ?_ | refine thenA_normal ?_)
      refine walkL_cond rfl (fun hc => ?_) (fun hc => ?_)
      · have hc' : start > getI D frm := by simpa using hc
        have hf : turnL n p route frm start home deadline = (-1, 0) := by simp [turnL, hop, hro, ← hD, hc']
        repeat (first | refine walkL_seq ?_ | refine walkL_skip ?_ | refine walkL_block ?_ | (refine walkL_region fun K hK => ?_; simp (maxSteps := 4000000) only [go_sem]; refine hK _ ?_; clear hK K) | refine walkL_nil ?_ | refine walkL_ret ?_ | refine walkL_exit ?_ | refine blockA_here ?_ | refine blockA_other rfl ?_ | refine blockA_ret ?_ | refine blockA_normal ?_ | refine thenA_ret ?_ | refine thenA_exit ?_ | refine thenA_normal ?_)
        simp (maxSteps := 4000000) only [go_sem, hf]
      · have hc' : ¬ start > getI D frm := by simpa using hc
        have hf : turnL n p route frm start home deadline = (turnF n p D route start 0, 0) := by simp only [turnL, hop, hro, ← hD, hc', if_true, if_false]
        rw [hf]
        repeat (first | refine walkL_seq ?_ | refine walkL_skip ?_ | refine walkL_block ?_ | (refine walkL_region fun K hK => ?_; simp (maxSteps := 4000000) only [go_sem, intRows_len]; refine hK _ ?_; clear hK K) | refine walkL_nil ?_ | refine walkL_ret ?_ | refine walkL_exit ?_ | refine blockA_here ?_ | refine blockA_other rfl ?_ | refine blockA_ret ?_ | refine blockA_normal ?_ | refine thenA_ret ?_ | refine thenA_exit ?_ | refine thenA_normal ?_)
        refine walkL_loopS (fun (a : Nat × Int) => [(58, .d (.i a.1)), (4, .d (.i a.2)), (19, .undef), (20, .undef)]) (fun _ => []) (fun a => a.1 ≤ route.length ∧ turnF n p D (route.drop a.1) a.2 a.1 = turnF n p D route start 0) (fun a => route.length - a.1) (0, start) ?_ ⟨Nat.zero_le _, rfl⟩ ?_
        · simp (maxSteps := 4000000) only [go_sem]
          refine weak_of [] ?_ ?_ rfl rfl <;> simp [lessT, lessM, lessB, AV.less]
        · intro ⟨i, t⟩ ⟨hi, hall⟩
          dsimp only at hi hall
          simp (maxSteps := 4000000) only [go_sem]
          repeat (first | refine walkL_seq ?_ | refine walkL_skip ?_ | refine walkL_block ?_ | (refine walkL_region fun K hK => ?_; simp (maxSteps := 4000000) only [go_sem]; refine hK _ ?_; clear hK K) | refine walkL_nil ?_ | refine walkL_ret ?_ | refine walkL_exit ?_ | refine blockA_here ?_ | refine blockA_other rfl ?_ | refine blockA_ret ?_ | refine blockA_normal ?_ | refine thenA_ret ?_ | refine thenA_exit ?_ | refine thenA_normal ?_)
          refine walkL_cond rfl (fun hb => ?_) (fun hb => ?_)
          · have hlt : i < route.length := by simpa using hb
            have hw : IntKind.i64.wrap ((i : Int) + 1) = ((i + 1 : Nat) : Int) := by rw [wr_small (by omega)]; simp
            obtain ⟨v, hv⟩ : ∃ v, route[i]? = some v := ⟨_, List.getElem?_eq_getElem hlt⟩
            have g1 := intRows_at hv
            obtain ⟨hv0, hv1⟩ := isRoute_on hro v (List.mem_of_getElem? hv)
            obtain ⟨j, rfl⟩ : ∃ j : Nat, v = (j : Int) := ⟨v.toNat, by omega⟩
            obtain ⟨x, hx⟩ : ∃ x, n.paths[j]? = some x := ⟨_, List.getElem?_eq_getElem (by omega)⟩
            have hpa : pathAt n j = x := by simp [pathAt, List.getD, hx]
            have hxg := ho.net.path x (List.mem_of_getElem? hx)
            have hdr : route.drop i = (j : Int) :: route.drop (i + 1) := by
              rw [List.drop_eq_getElem_cons hlt]
              congr 1
              rw [List.getElem?_eq_getElem hlt] at hv
              exact Option.some.inj hv
            have hxo := hs.opens x (List.mem_of_getElem? hx)
            rw [hdr, turnF, hpa] at hall
            obtain ⟨u, hu⟩ : ∃ u, u = arriveF x.opens t (spanW x p).hi := ⟨_, rfl⟩
            rw [← hu] at hall
            have h50 : Fn Try.prog 50 [.agg (walkCells n p), .i j, .i t, .i (spanW x p).hi] (.i u) := hu ▸ f50 n p j x t (spanW x p).hi hx (by omega)
            rw [walkCells] at h50
            have h51 := f51 n p j x hx
            rw [walkCells] at h51
            have hgt : (intRows D)[x.to.toNat]? = some [.i (getI D x.to)] := intRows_get hxg.to.1 (by have := hxg.to.2; omega)
            have hltt : x.to.toNat < (intRows D).length := by rw [intRows_len]; have := hxg.to; omega
            repeat (first | refine walkL_seq ?_ | refine walkL_skip ?_ | refine walkL_block ?_ | (refine walkL_region fun K hK => ?_; simp (maxSteps := 4000000) only [go_sem, g1]; refine hK _ ?_; clear hK K) | refine walkL_nil ?_ | refine walkL_ret ?_ | refine walkL_exit ?_ | refine blockA_here ?_ | refine blockA_other rfl ?_ | refine blockA_ret ?_ | refine blockA_normal ?_ | refine thenA_ret ?_ | refine thenA_exit ?_ | refine thenA_normal ?_)
            refine walkL_drawn (by kernel_rfl) (by kernel_rfl) fun K hK => ?_
            simp (maxSteps := 4000000) only [go_sem, hx]
            refine ⟨_, .fn (hf := h51) (hd := rfl) (hr := .inl rfl), ?_⟩
            simp (maxSteps := 4000000) only [go_sem, Span.row]
            refine ⟨_, .fn (hf := h50) (hd := rfl) (hr := .inl rfl), ?_⟩
            simp (maxSteps := 4000000) only [go_sem]
            refine ⟨by kernel_rfl, hK _ ?_⟩
            clear hK K
            repeat (first | refine walkL_seq ?_ | refine walkL_skip ?_ | refine walkL_block ?_ | (refine walkL_region fun K hK => ?_; simp (maxSteps := 4000000) only [go_sem, hx, List.getElem?_map, Path.row, hgt, hltt, hxg.to.1]; refine hK _ ?_; clear hK K) | refine walkL_nil ?_ | refine walkL_ret ?_ | refine walkL_exit ?_ | refine blockA_here ?_ | refine blockA_other rfl ?_ | refine blockA_ret ?_ | refine blockA_normal ?_ | refine thenA_ret ?_ | refine thenA_exit ?_ | refine thenA_normal ?_)
            refine walkL_cond rfl (fun hc => ?_) (fun hc => ?_)
            · have hc' : u > getI D x.to := by simpa using hc
              rw [if_pos hc'] at hall
              repeat (first | refine walkL_seq ?_ | refine walkL_skip ?_ | refine walkL_block ?_ | (refine walkL_region fun K hK => ?_; simp (maxSteps := 4000000) only [go_sem]; refine hK _ ?_; clear hK K) | refine walkL_nil ?_ | refine walkL_ret ?_ | refine walkL_exit ?_ | refine blockA_here ?_ | refine blockA_other rfl ?_ | refine blockA_ret ?_ | refine blockA_normal ?_ | refine thenA_ret ?_ | refine thenA_exit ?_ | refine thenA_normal ?_)
              simp (maxSteps := 4000000) only [go_sem, ← hall]
            · have hc' : ¬ u > getI D x.to := by simpa using hc
              rw [if_neg hc'] at hall
              repeat (first | refine walkL_seq ?_ | refine walkL_skip ?_ | refine walkL_block ?_ | (refine walkL_region fun K hK => ?_; simp (maxSteps := 4000000) only [go_sem, hw]; refine hK _ ?_; clear hK K) | refine walkL_nil ?_ | refine walkL_ret ?_ | refine walkL_exit ?_ | refine blockA_here ?_ | refine blockA_other rfl ?_ | refine blockA_ret ?_ | refine blockA_normal ?_ | refine thenA_ret ?_ | refine thenA_exit ?_ | refine thenA_normal ?_)
              refine ⟨rfl, (i + 1, u), ?_, ⟨hlt, hall⟩, by dsimp only; omega⟩
              refine weak_of [] ?_ ?_ rfl rfl <;> simp [lessT, lessM, lessB, AV.less]
          · have he : i = route.length := by (have : ¬ i < route.length := by simpa using hb); omega
            subst he
            rw [List.drop_length, turnF] at hall
            repeat (first | refine walkL_seq ?_ | refine walkL_skip ?_ | refine walkL_block ?_ | (refine walkL_region fun K hK => ?_; simp (maxSteps := 4000000) only [go_sem, intRows_len]; refine hK _ ?_; clear hK K) | refine walkL_nil ?_ | refine walkL_ret ?_ | refine walkL_exit ?_ | refine blockA_here ?_ | refine blockA_other rfl ?_ | refine blockA_ret ?_ | refine blockA_normal ?_ | refine thenA_ret ?_ | refine thenA_exit ?_ | refine thenA_normal ?_)
            simp (maxSteps := 4000000) only [go_sem, ← hall]
    · have hro' : isRouteB n p frm route = false := by simpa using hro
      have hf : turnL n p route frm start home deadline = (0, 12) := by simp [turnL, hop, hro']
      repeat (first | refine walkL_seq ?_ | refine walkL_skip ?_ | refine walkL_block ?_ | (refine walkL_region fun K hK => ?_; simp (maxSteps := 4000000) only [go_sem, walkCells, hop, hro']; (repeat (first | (refine ⟨_, .lent (hf := h41) (hd := rfl) (hr := rfl), ?_⟩; simp (maxSteps := 4000000) only [go_sem, walkCells, hop, hro']) | (refine ⟨_, .lent (hf := h78) (hd := rfl) (hr := rfl), ?_⟩; simp (maxSteps := 4000000) only [go_sem, walkCells, hop, hro']) | (refine ⟨_, .given (hf := h41) (hd := rfl) (ha := rfl), ?_⟩; simp (maxSteps := 4000000) only [go_sem, walkCells, hop, hro']) | (refine ⟨_, .given (hf := h78) (hd := rfl) (ha := rfl), ?_⟩; simp (maxSteps := 4000000) only [go_sem, walkCells, hop, hro']))); refine hK _ ?_; clear hK K) | refine walkL_nil ?_ | refine walkL_ret ?_ | refine walkL_exit ?_ | refine blockA_here ?_ | refine blockA_other rfl ?_ | refine blockA_ret ?_ | refine blockA_normal ?_ | refine thenA_ret ?_ | refine thenA_exit ?_ | refine thenA_normal ?_)
      refine walkL_true rfl ?_
      repeat (first | refine walkL_seq ?_ | refine walkL_skip ?_ | refine walkL_block ?_ | (refine walkL_region fun K hK => ?_; simp (maxSteps := 4000000) only [go_sem]; refine hK _ ?_; clear hK K) | refine walkL_nil ?_ | refine walkL_ret ?_ | refine walkL_exit ?_ | refine blockA_here ?_ | refine blockA_other rfl ?_ | refine blockA_ret ?_ | refine blockA_normal ?_ | refine thenA_ret ?_ | refine thenA_exit ?_ | refine thenA_normal ?_)
      refine walkL_true rfl ?_
      repeat (first | refine walkL_seq ?_ | refine walkL_skip ?_ | refine walkL_block ?_ | (refine walkL_region fun K hK => ?_; simp (maxSteps := 4000000) only [go_sem]; refine hK _ ?_; clear hK K) | refine walkL_nil ?_ | refine walkL_ret ?_ | refine walkL_exit ?_ | refine blockA_here ?_ | refine blockA_other rfl ?_ | refine blockA_ret ?_ | refine blockA_normal ?_ | refine thenA_ret ?_ | refine thenA_exit ?_ | refine thenA_normal ?_)
      simp (maxSteps := 4000000) only [go_sem, hf]
  · have hf : turnL n p route frm start home deadline = (0, openF n p [frm, home] [start, deadline]) := by simp [turnL, hop]
    have hopb : (openF n p [frm, home] [start, deadline] == 0) = false := by simp [hop]
    repeat (first | refine walkL_seq ?_ | refine walkL_skip ?_ | refine walkL_block ?_ | (refine walkL_region fun K hK => ?_; simp (maxSteps := 4000000) only [go_sem, walkCells, hopb]; (repeat (first | (refine ⟨_, .lent (hf := h41) (hd := rfl) (hr := rfl), ?_⟩; simp (maxSteps := 4000000) only [go_sem, walkCells, hopb]) | (refine ⟨_, .given (hf := h41) (hd := rfl) (ha := rfl), ?_⟩; simp (maxSteps := 4000000) only [go_sem, walkCells, hopb]))); refine hK _ ?_; clear hK K) | refine walkL_nil ?_ | refine walkL_ret ?_ | refine walkL_exit ?_ | refine blockA_here ?_ | refine blockA_other rfl ?_ | refine blockA_ret ?_ | refine blockA_normal ?_ | refine thenA_ret ?_ | refine thenA_exit ?_ | refine thenA_normal ?_)
    refine walkL_false rfl ?_
    have hopn : (openF n p [frm, home] [start, deadline] != 0) = true := by simp [hop]
    repeat (first | refine walkL_seq ?_ | refine walkL_skip ?_ | refine walkL_block ?_ | (refine walkL_region fun K hK => ?_; simp (maxSteps := 4000000) only [go_sem, hopn]; refine hK _ ?_; clear hK K) | refine walkL_nil ?_ | refine walkL_ret ?_ | refine walkL_exit ?_ | refine blockA_here ?_ | refine blockA_other rfl ?_ | refine blockA_ret ?_ | refine blockA_normal ?_ | refine thenA_ret ?_ | refine thenA_exit ?_ | refine thenA_normal ?_)
    refine walkL_true rfl ?_
    repeat (first | refine walkL_seq ?_ | refine walkL_skip ?_ | refine walkL_block ?_ | (refine walkL_region fun K hK => ?_; simp (maxSteps := 4000000) only [go_sem]; refine hK _ ?_; clear hK K) | refine walkL_nil ?_ | refine walkL_ret ?_ | refine walkL_exit ?_ | refine blockA_here ?_ | refine blockA_other rfl ?_ | refine blockA_ret ?_ | refine blockA_normal ?_ | refine thenA_ret ?_ | refine thenA_exit ?_ | refine thenA_normal ?_)
    simp (maxSteps := 4000000) only [go_sem, hf]
end Go.Ab
namespace Go.Ab
open Go.RowKit Go.Proofs

/-- The specification's step is the program's. -/
theorem step_arrive {x : Path} {p : Party} {t : Int} {high : Bool} (ht : 0 ≤ t) (h1 : okTime (spanW x p).hi) (h2 : okTime (spanW x p).lo) : stepF x p t high = arriveF x.opens t (if high then (spanW x p).hi else (spanW x p).lo) := by
  have hd : okTime (if high then (spanW x p).hi else (spanW x p).lo) := by cases high; exact h2; exact h1
  obtain ⟨d, hdd⟩ : ∃ d, d = (if high then (spanW x p).hi else (spanW x p).lo) := ⟨_, rfl⟩
  have hv : never = 1073741824 := rfl
  rw [← hdd] at hd ⊢
  unfold stepF
  rw [← hdd, arrive_eq ht hd]
  have h3 := enter_nonneg (opens := x.opens) ht
  have h4 := enter_never x.opens t
  unfold okTime at hd
  have hw : wr (enterF x.opens t + d) = enterF x.opens t + d := wr_small (by omega)
  simp only [hw]
  split
  · rw [if_pos (by omega)]; rfl
  · split
    · rfl
    · rfl

/-- Where the party is on a route, and when: one path further. -/
def goOn (n : Net) (p : Party) (s : Int × Int) (v : Int) : Int × Int := ((pathAt n v).to, arriveF (pathAt n v).opens s.2 (spanW (pathAt n v) p).hi)
def posR (n : Net) (p : Party) (s : Int × Int) (l : List Int) (i : Nat) : Int × Int := (l.take i).foldl (goOn n p) s

theorem posR_succ {n : Net} {p : Party} {s : Int × Int} {l : List Int} {i : Nat} {v : Int} (h : l[i]? = some v) : posR n p s l (i + 1) = goOn n p (posR n p s l i) v := by
  unfold posR
  rw [List.take_add_one, h, List.foldl_append]; rfl

theorem turn_spec (n : Net) (p : Party) (by1 : List Int) : ∀ (l : List Int) (s : Int × Int) (k : Nat), ∃ m : Nat, m ≤ l.length ∧ turnF n p by1 l s.2 k = k + m ∧
    (∀ i, 0 < i → i ≤ m → (posR n p s l i).2 ≤ getI by1 (posR n p s l i).1) ∧ (m < l.length → (posR n p s l (m + 1)).2 > getI by1 (posR n p s l (m + 1)).1)
  | [], s, k => ⟨0, by simp, by simp [turnF], fun i h1 h2 => by omega, fun h => by simp at h⟩
  | v :: r, s, k => by
    unfold turnF
    by_cases hc : arriveF (pathAt n v).opens s.2 (spanW (pathAt n v) p).hi > getI by1 (pathAt n v).to
    · rw [if_pos hc]
      exact ⟨0, by simp, by simp, fun i h1 h2 => by omega, fun _ => hc⟩
    · rw [if_neg hc]
      obtain ⟨m, h1, h2, h3, h4⟩ := turn_spec n p by1 r (goOn n p s v) (k + 1)
      refine ⟨m + 1, by simp; omega, ?_, fun i hi him => ?_, fun h => h4 (by simpa using h)⟩
      · have : (goOn n p s v).2 = arriveF (pathAt n v).opens s.2 (spanW (pathAt n v) p).hi := rfl
        rw [← this, h2]; omega
      · obtain ⟨i, rfl⟩ : ∃ j, i = j + 1 := ⟨i - 1, by omega⟩
        rcases Nat.eq_zero_or_pos i with rfl | hi0
        · exact Int.not_lt.1 hc
        · exact h3 i hi0 (by omega)
end Go.Ab
namespace Go.Ab
open Go.RowKit Go.Proofs
set_option maxHeartbeats 4000000
set_option maxRecDepth 20000
attribute [local irreducible] WalkL Walk

theorem pathAt_mem {n : Net} {v : Int} (h : onNet n v) : n.paths[v.toNat]? = some (pathAt n v) ∧ pathAt n v ∈ n.paths := by
  obtain ⟨h0, h1⟩ := h
  have hx : n.paths[v.toNat]? = some (n.paths[v.toNat]'(by omega)) := List.getElem?_eq_getElem _
  have : pathAt n v = n.paths[v.toNat]'(by omega) := by simp [pathAt, List.getD, hx]
  rw [this]
  exact ⟨hx, List.getElem_mem _⟩

/-- Along a route places are places, and minutes are minutes or never. -/
theorem posR_range {n : Net} {p : Party} (hn : n.Good) (hp : p.Good) {l : List Int} (hl : ∀ v ∈ l, onNet n v) {s : Int × Int} (h1 : 0 ≤ s.1 ∧ s.1 < n.places) (h2 : 0 ≤ s.2) : ∀ i, (0 ≤ (posR n p s l i).1 ∧ (posR n p s l i).1 < n.places) ∧ 0 ≤ (posR n p s l i).2
  | 0 => ⟨h1, h2⟩
  | i + 1 => by
    obtain ⟨g1, g2⟩ := posR_range hn hp hl h1 h2 i
    cases hv : l[i]? with
    | none =>
      have : posR n p s l (i + 1) = posR n p s l i := by
        unfold posR
        rw [List.take_add_one, hv]; simp
      rw [this]
      exact ⟨g1, g2⟩
    | some v =>
      rw [posR_succ hv]
      obtain ⟨e1, e2⟩ := pathAt_mem (hl v (List.mem_of_getElem? hv))
      have hg := hn.path _ e2
      refine ⟨hg.to, ?_⟩
      have hv : never = 1073741824 := rfl
      rcases arrive_range (opens := (pathAt n v).opens) g2 (span_ok hg hp).1 with h | h
      · show 0 ≤ arriveF _ _ _
        omega
      · show 0 ≤ arriveF _ _ _
        have := (span_ok hg hp).1
        unfold okTime at this
        omega

/-- Up to where the party can turn back. -/
theorem turnL_spec {n : Net} {p : Party} {route : List Int} {frm start home deadline : Int} (hop : openF n p [frm, home] [start, deadline] = 0) (hro : isRouteB n p frm route = true) :
    ∃ k : Int, turnL n p route frm start home deadline = (k, 0) ∧ -1 ≤ k ∧ k ≤ route.length ∧
      (∀ i : Nat, (i : Int) ≤ k → (posR n p (frm, start) route i).2 ≤ getI (deadlinesL n p home deadline) (posR n p (frm, start) route i).1) ∧
      (∀ i : Nat, (i : Int) = k + 1 → i ≤ route.length → (posR n p (frm, start) route i).2 > getI (deadlinesL n p home deadline) (posR n p (frm, start) route i).1) := by
  by_cases hc : start > getI (deadlinesL n p home deadline) frm
  · refine ⟨-1, by simp [turnL, hop, hro, hc], by omega, by omega, fun i hi => by omega, fun i hi _ => ?_⟩
    obtain rfl : i = 0 := by omega
    exact hc
  · obtain ⟨m, h1, h2, h3, h4⟩ := turn_spec n p (deadlinesL n p home deadline) route (frm, start) 0
    refine ⟨m, ?_, by omega, by omega, fun i hi => ?_, fun i hi hl => ?_⟩
    · simp only [turnL, hop, hro, hc, if_true, if_false]
      rw [h2]; simp
    · rcases Nat.eq_zero_or_pos i with rfl | hi0
      · exact Int.not_lt.1 hc
      · exact h3 i hi0 (by omega)
    · obtain rfl : i = m + 1 := by omega
      exact h4 (by omega)
end Go.Ab
namespace Go.Ab
open Go.RowKit Go.Proofs
set_option maxHeartbeats 4000000
set_option maxRecDepth 20000
attribute [local irreducible] WalkL Walk

theorem f10 (n : Net) (p : Party) (x : Trip) (hs : n.Small) (hr : x.route.length < 2 ^ 30) : Fn Try.prog 10 [.agg n.cells, .agg p.cells, .agg x.row] (.bool true) := by
  have h20 := f20 n p x hs
  have h22 := f22 n p x.route x.frm hs.paths hr
  have hrl := intRows_len x.route
  refine fn_walk 150 Try.call10 Try.func10 rfl (by decide) fun J => ?_
  simp (maxSteps := 4000000) only [go_sem, St.start, Try.ntmps10, Try.results10, Net.cells, Party.cells, Trip.row]
  by_cases hfit : fitsB n p x = true
  · by_cases hro : isRouteB n p x.frm x.route = true
    · have hf := fits_of hfit
      have hpl := hf.net.places
      have ho1 : openF n p [x.frm, x.to] [x.start, x.deadline] = 0 := open_iff.2 ⟨hf.net, hf.party, by simpa using ⟨hf.frm, hf.to⟩, by simpa using ⟨hf.start, hf.deadline⟩⟩
      have h34 := f34 n p x.route x.frm x.start x.to x.deadline hs hr
      obtain ⟨k, hk0, hk1, hk2, hk3, hk4⟩ := turnL_spec ho1 hro
      rw [hk0] at h34
      have hlen : (x.route.length : Int) ≤ 30 := by
        unfold isRouteB at hro
        simpa using (Bool.and_eq_true_iff.1 hro).2
      have hon := isRoute_on hro
      have hrange := posR_range hf.net hf.party hon (s := (x.frm, x.start)) hf.frm hf.start.1
      obtain ⟨pos, hpos⟩ : ∃ pos, pos = posR n p (x.frm, x.start) x.route := ⟨_, rfl⟩
      have hposs : ∀ (i : Nat) v, x.route[i]? = some v → pos (i + 1) = goOn n p (pos i) v := fun i v h => hpos ▸ posR_succ h
      have hpos0 : pos 0 = (x.frm, x.start) := by rw [hpos]; rfl
      rw [← hpos] at hk3 hk4 hrange
      obtain ⟨by1, hby⟩ : ∃ by1, by1 = deadlinesL n p x.to x.deadline := ⟨_, rfl⟩
      rw [← hby] at hk3 hk4
      have hd := (dead_spec hf.net hf.party hf.to hf.deadline).1
      rw [← hby] at hd
      have hn1 : decide (k < -1) = false := by simp; omega
      have hn2 : decide (k > (x.route.length : Int)) = false := by simp; omega
      repeat (first | refine walkL_seq ?_ | refine walkL_skip ?_ | refine walkL_block ?_ | (refine walkL_region fun K hK => ?_; simp (maxSteps := 4000000) only [go_sem, hfit, hro]; (repeat (first | (refine ⟨_, .lent (hf := h20) (hd := rfl) (hr := rfl), ?_⟩; simp (maxSteps := 4000000) only [go_sem, hfit, hro]) | (refine ⟨_, .lent (hf := h22) (hd := rfl) (hr := rfl), ?_⟩; simp (maxSteps := 4000000) only [go_sem, hfit, hro]) | (refine ⟨_, .given (hf := h20) (hd := rfl) (ha := rfl), ?_⟩; simp (maxSteps := 4000000) only [go_sem, hfit, hro]) | (refine ⟨_, .given (hf := h22) (hd := rfl) (ha := rfl), ?_⟩; simp (maxSteps := 4000000) only [go_sem, hfit, hro]))); refine hK _ ?_; clear hK K) | refine walkL_nil ?_ | refine walkL_ret ?_ | refine walkL_exit ?_ | refine blockA_here ?_ | refine blockA_other rfl ?_ | refine blockA_ret ?_ | refine blockA_normal ?_ | refine thenA_ret ?_ | refine thenA_exit ?_ | refine thenA_normal ?_)
      refine walkL_false rfl ?_
      repeat (first | refine walkL_seq ?_ | refine walkL_skip ?_ | refine walkL_block ?_ | (refine walkL_region fun K hK => ?_; simp (maxSteps := 4000000) only [go_sem, hn1, hn2, hrl]; (repeat (first | (refine ⟨_, .lent (hf := h34) (hd := rfl) (hr := rfl), ?_⟩; simp (maxSteps := 4000000) only [go_sem, hn1, hn2, hrl]) | (refine ⟨_, .given (hf := h34) (hd := rfl) (ha := rfl), ?_⟩; simp (maxSteps := 4000000) only [go_sem, hn1, hn2, hrl]))); refine hK _ ?_; clear hK K) | refine walkL_nil ?_ | refine walkL_ret ?_ | refine walkL_exit ?_ | refine blockA_here ?_ | refine blockA_other rfl ?_ | refine blockA_ret ?_ | refine blockA_normal ?_ | refine thenA_ret ?_ | refine thenA_exit ?_ | refine thenA_normal ?_)
      refine walkL_false rfl ?_
      repeat (first | refine walkL_seq ?_ | refine walkL_skip ?_ | refine walkL_block ?_ | (refine walkL_region fun K hK => ?_; simp (maxSteps := 4000000) only [go_sem]; refine hK _ ?_; clear hK K) | refine walkL_nil ?_ | refine walkL_ret ?_ | refine walkL_exit ?_ | refine blockA_here ?_ | refine blockA_other rfl ?_ | refine blockA_ret ?_ | refine blockA_normal ?_ | refine thenA_ret ?_ | refine thenA_exit ?_ | refine thenA_normal ?_)
      refine walkL_drawn (by kernel_rfl) (by kernel_rfl) fun K hK => ?_
      simp (maxSteps := 4000000) only [go_sem]
      refine ⟨by kernel_rfl, hK _ ?_⟩
      clear hK K
      repeat (first | refine walkL_seq ?_ | refine walkL_skip ?_ | refine walkL_block ?_ | (refine walkL_region fun K hK => ?_; simp (maxSteps := 4000000) only [go_sem]; refine hK _ ?_; clear hK K) | refine walkL_nil ?_ | refine walkL_ret ?_ | refine walkL_exit ?_ | refine blockA_here ?_ | refine blockA_other rfl ?_ | refine blockA_ret ?_ | refine blockA_normal ?_ | refine thenA_ret ?_ | refine thenA_exit ?_ | refine thenA_normal ?_)
      refine walkL_loopS (fun (i : Nat) => [(11, .d (.i i)), (9, .d (.i (pos (i - 1)).1)), (10, .d (.i (pos (i - 1)).2)), (12, .undef), (13, .undef), (14, .undef), (15, .undef)]) (fun _ => []) (fun i => i ≤ x.route.length + 1 ∧ (i : Int) ≤ k + 2) (fun i => x.route.length + 1 - i) 0 ?_ ⟨Nat.zero_le _, by omega⟩ ?_
      · simp (maxSteps := 4000000) only [go_sem, hpos0]
        refine weak_of [] ?_ ?_ rfl rfl <;> simp [lessT, lessM, lessB, AV.less]
      · intro i ⟨hi, hik⟩
        simp (maxSteps := 4000000) only [go_sem]
        have hwk : IntKind.i64.wrap (k + 1) = k + 1 := wr_small (by omega)
        have hw : IntKind.i64.wrap ((i : Int) + 1) = ((i + 1 : Nat) : Int) := by rw [wr_small (by omega)]; simp
        by_cases hA : (i : Int) ≤ x.route.length ∧ (i : Int) ≤ k + 1
        · have hA1 : decide ((i : Int) ≤ (x.route.length : Int)) = true := by simpa using hA.1
          have hA2 : decide ((i : Int) ≤ k + 1) = true := by simpa using hA.2
          repeat (first | refine walkL_seq ?_ | refine walkL_skip ?_ | refine walkL_block ?_ | (refine walkL_region fun K hK => ?_; simp (maxSteps := 4000000) only [go_sem, hrl, hA1, hwk, hA2]; refine hK _ ?_; clear hK K) | refine walkL_nil ?_ | refine walkL_ret ?_ | refine walkL_exit ?_ | refine blockA_here ?_ | refine blockA_other rfl ?_ | refine blockA_ret ?_ | refine blockA_normal ?_ | refine thenA_ret ?_ | refine thenA_exit ?_ | refine thenA_normal ?_)
          refine walkL_true rfl ?_
          repeat (first | refine walkL_seq ?_ | refine walkL_skip ?_ | refine walkL_block ?_ | (refine walkL_region fun K hK => ?_; simp (maxSteps := 4000000) only [go_sem]; refine hK _ ?_; clear hK K) | refine walkL_nil ?_ | refine walkL_ret ?_ | refine walkL_exit ?_ | refine blockA_here ?_ | refine blockA_other rfl ?_ | refine blockA_ret ?_ | refine blockA_normal ?_ | refine thenA_ret ?_ | refine thenA_exit ?_ | refine thenA_normal ?_)
          obtain ⟨pl, hpl0⟩ : ∃ pl, pl = (pos i).1 := ⟨_, rfl⟩
          obtain ⟨at1, hat⟩ : ∃ at1, at1 = (pos i).2 := ⟨_, rfl⟩
          refine walkL_meetS [(9, .d (.i pl)), (10, .d (.i at1))] [] ?_ ?_
          · cases i with
            | zero =>
              refine walkL_cond rfl (fun hc => ?_) (fun hc => ?_)
              · simp at hc
              · repeat (first | refine walkL_seq ?_ | refine walkL_skip ?_ | refine walkL_block ?_ | (refine walkL_region fun K hK => ?_; simp (maxSteps := 4000000) only [go_sem]; refine hK _ ?_; clear hK K) | refine walkL_nil ?_ | refine walkL_ret ?_ | refine walkL_exit ?_ | refine blockA_here ?_ | refine blockA_other rfl ?_ | refine blockA_ret ?_ | refine blockA_normal ?_ | refine thenA_ret ?_ | refine thenA_exit ?_ | refine thenA_normal ?_)
                refine ⟨rfl, ?_⟩
                rw [hpl0, hat]
                simp (maxSteps := 4000000) only [go_sem]
                refine weak_of [] ?_ ?_ rfl rfl <;> simp [lessT, lessM, lessB, AV.less]
            | succ j =>
              refine walkL_cond rfl (fun hc => ?_) (fun hc => ?_)
              · obtain ⟨v, hv⟩ : ∃ v, x.route[j]? = some v := ⟨_, List.getElem?_eq_getElem (by omega)⟩
                have g1 := intRows_at hv
                have hvo := hon v (List.mem_of_getElem? hv)
                obtain ⟨hx, hxm⟩ := pathAt_mem hvo
                obtain ⟨v, rfl⟩ : ∃ j : Nat, v = (j : Int) := ⟨v.toNat, by have := hvo.1; omega⟩
                have hxg := hf.net.path _ hxm
                have hso := span_ok hxg hf.party
                have hps := hposs j _ hv
                have hst : stepF (pathAt n v) p (pos j).2 true = at1 := by
                  rw [step_arrive (hrange j).2 hso.1 hso.2.1, hat, hps]; rfl
                have hpv : (pathAt n v).to = pl := by rw [hpl0, hps]; rfl
                rw [Int.toNat_natCast] at hx
                have h35 := f35 n p v (pathAt n v) (pos j).2 true hx (by have := hs.opens _ hxm; omega)
                rw [hst, Net.cells] at h35
                obtain ⟨y, hy⟩ : ∃ y, y = pathAt n v := ⟨_, rfl⟩
                rw [← hy] at hx hpv
                have hj1 : IntKind.i64.wrap (((j + 1 : Nat) : Int) - 1) = j := by rw [wr_small (by omega)]; omega
                have hj2 : j + 1 - 1 = j := rfl
                rw [hj2]
                repeat (first | refine walkL_seq ?_ | refine walkL_skip ?_ | refine walkL_block ?_ | (refine walkL_region fun K hK => ?_; simp (maxSteps := 4000000) only [go_sem]; refine hK _ ?_; clear hK K) | refine walkL_nil ?_ | refine walkL_ret ?_ | refine walkL_exit ?_ | refine blockA_here ?_ | refine blockA_other rfl ?_ | refine blockA_ret ?_ | refine blockA_normal ?_ | refine thenA_ret ?_ | refine thenA_exit ?_ | refine thenA_normal ?_)
                refine walkL_drawn (by kernel_rfl) (by kernel_rfl) fun K hK => ?_
                simp (maxSteps := 4000000) only [go_sem, g1, hj1]
                refine ⟨_, .fn (hf := h35) (hd := rfl) (hr := .inl rfl), ?_⟩
                simp (maxSteps := 4000000) only [go_sem]
                refine ⟨by kernel_rfl, hK _ ?_⟩
                clear hK K
                repeat (first | refine walkL_seq ?_ | refine walkL_skip ?_ | refine walkL_block ?_ | (refine walkL_region fun K hK => ?_; simp (maxSteps := 4000000) only [go_sem]; refine hK _ ?_; clear hK K) | refine walkL_nil ?_ | refine walkL_ret ?_ | refine walkL_exit ?_ | refine blockA_here ?_ | refine blockA_other rfl ?_ | refine blockA_ret ?_ | refine blockA_normal ?_ | refine thenA_ret ?_ | refine thenA_exit ?_ | refine thenA_normal ?_)
                refine walkL_drawn (by kernel_rfl) (by kernel_rfl) fun K hK => ?_
                simp (maxSteps := 4000000) only [go_sem, g1, hj1, hx, List.getElem?_map, Path.row]
                refine ⟨by kernel_rfl, hK _ ?_⟩
                clear hK K
                repeat (first | refine walkL_seq ?_ | refine walkL_skip ?_ | refine walkL_block ?_ | (refine walkL_region fun K hK => ?_; simp (maxSteps := 4000000) only [go_sem]; refine hK _ ?_; clear hK K) | refine walkL_nil ?_ | refine walkL_ret ?_ | refine walkL_exit ?_ | refine blockA_here ?_ | refine blockA_other rfl ?_ | refine blockA_ret ?_ | refine blockA_normal ?_ | refine thenA_ret ?_ | refine thenA_exit ?_ | refine thenA_normal ?_)
                refine ⟨rfl, ?_⟩
                rw [← hpv]
                simp (maxSteps := 4000000) only [go_sem]
                refine weak_of [] ?_ ?_ rfl rfl <;> simp [lessT, lessM, lessB, AV.less]
              · exact absurd hc (by simp)
          · have hri := hrange i
            have hki := hk3 i
            have hki' := hk4 i
            rw [← hpl0, ← hat] at hri hki hki'
            have hdi := hd pl hri.1.1 hri.1.2
            simp (maxSteps := 4000000) only [go_sem]
            repeat (first | refine walkL_seq ?_ | refine walkL_skip ?_ | refine walkL_block ?_ | (refine walkL_region fun K hK => ?_; simp (maxSteps := 4000000) only [go_sem]; refine hK _ ?_; clear hK K) | refine walkL_nil ?_ | refine walkL_ret ?_ | refine walkL_exit ?_ | refine blockA_here ?_ | refine blockA_other rfl ?_ | refine blockA_ret ?_ | refine blockA_normal ?_ | refine thenA_ret ?_ | refine thenA_exit ?_ | refine thenA_normal ?_)
            refine walkL_cond rfl (fun hc => ?_) (fun hc => ?_)
            · have hc' : at1 > 2880 := by simpa using hc
              have hik1 : (i : Int) = k + 1 := by
                by_cases h : (i : Int) ≤ k
                · have := hki h; omega
                · omega
              have hke : ((i : Int) == k + 1) = true := by simp [hik1]
              repeat (first | refine walkL_seq ?_ | refine walkL_skip ?_ | refine walkL_block ?_ | (refine walkL_region fun K hK => ?_; simp (maxSteps := 4000000) only [go_sem, hwk, hke]; (repeat (first | (refine ⟨_, .lent (hf := f13) (hd := rfl) (hr := rfl), ?_⟩; simp (maxSteps := 4000000) only [go_sem, hwk, hke]) | (refine ⟨_, .given (hf := f13) (hd := rfl) (ha := rfl), ?_⟩; simp (maxSteps := 4000000) only [go_sem, hwk, hke]))); refine hK _ ?_; clear hK K) | refine walkL_nil ?_ | refine walkL_ret ?_ | refine walkL_exit ?_ | refine blockA_here ?_ | refine blockA_other rfl ?_ | refine blockA_ret ?_ | refine blockA_normal ?_ | refine thenA_ret ?_ | refine thenA_exit ?_ | refine thenA_normal ?_)
              simp (maxSteps := 4000000) only [go_sem]
            · have hc' : at1 ≤ 2880 := by simpa using hc
              have ho2 : openF n p [pl] [at1] = 0 := open_iff.2 ⟨hf.net, hf.party, by simpa using hri.1, by simpa using ⟨hri.2, hc'⟩⟩
              have h21 := f21 n p pl at1 hs
              have e21 : arriveL n p pl at1 = ((arrivalsL n p spanHi pl at1 (-1)).map told1, (arrivalsL n p spanLo pl at1 (-1)).map told1, 0) := by rw [arriveL, if_pos ho2]
              rw [e21] at h21
              have hcomes := (told_iff hf.net hf.party hri.1 hf.to ⟨hri.2, hc'⟩ hf.deadline).trans (comes_iff hf.net hf.party hri.1 hf.to ⟨hri.2, hc'⟩ hf.deadline)
              rw [← hby] at hcomes
              obtain ⟨arr, harr⟩ : ∃ arr, arr = arrivalsL n p spanHi pl at1 (-1) := ⟨_, rfl⟩
              have hal : arr.length = n.places.toNat := by rw [harr, arrivals_len]
              rw [← harr] at h21 hcomes
              have hto := hf.to
              have g1 : (intRows (arr.map told1))[x.to.toNat]? = some [.i (told1 (getI arr x.to))] := by
                rw [intRows_get hto.1 (by simp; omega), map_getI _ _ _ (by omega)]
              have hlen' : ((arr.length : Int) != n.places) = false := by simp; omega
              obtain ⟨av, hav⟩ : ∃ av, av = told1 (getI arr x.to) := ⟨_, rfl⟩
              rw [← hav] at g1 hcomes
              have hcb : (decide (av ≥ 0) && decide (av ≤ x.deadline)) = decide ((i : Int) ≤ k) := by
                by_cases h : (i : Int) ≤ k
                · have := hcomes.2 (hki h); simp [h, this]
                · have h' : ¬ (0 ≤ av ∧ av ≤ x.deadline) := fun h1 => by
                    have h2 := hcomes.1 h1
                    have h3 := hki' (by omega) (by omega)
                    omega
                  simp only [h, decide_false]
                  by_cases h1 : av ≥ 0
                  · have : ¬ av ≤ x.deadline := fun h2 => h' ⟨h1, h2⟩
                    simp [this]
                  · simp [h1]
              have hn3 : ((decide ((i : Int) ≤ k)) != (decide ((i : Int) ≤ k))) = false := by simp
              repeat (first | refine walkL_seq ?_ | refine walkL_skip ?_ | refine walkL_block ?_ | (refine walkL_region fun K hK => ?_; simp (maxSteps := 4000000) only [go_sem, intRows_len, hlen']; (repeat (first | (refine ⟨_, .lent (hf := h21) (hd := rfl) (hr := rfl), ?_⟩; simp (maxSteps := 4000000) only [go_sem, intRows_len, hlen']) | (refine ⟨_, .given (hf := h21) (hd := rfl) (ha := rfl), ?_⟩; simp (maxSteps := 4000000) only [go_sem, intRows_len, hlen']))); refine hK _ ?_; clear hK K) | refine walkL_nil ?_ | refine walkL_ret ?_ | refine walkL_exit ?_ | refine blockA_here ?_ | refine blockA_other rfl ?_ | refine blockA_ret ?_ | refine blockA_normal ?_ | refine thenA_ret ?_ | refine thenA_exit ?_ | refine thenA_normal ?_)
              refine walkL_false rfl ?_
              repeat (first | refine walkL_seq ?_ | refine walkL_skip ?_ | refine walkL_nil ?_ | refine walkL_ret ?_ | refine walkL_exit ?_ | refine blockA_here ?_ | refine blockA_other rfl ?_ | refine blockA_ret ?_ | refine blockA_normal ?_ | refine thenA_ret ?_ | refine thenA_exit ?_ | refine thenA_normal ?_)
              refine walkL_meetS [(15, .d (.bool (decide ((i : Int) ≤ k))))] [] ?_ ?_
              · refine walkL_drawn (by kernel_rfl) (by kernel_rfl) fun K hK => ?_
                simp (maxSteps := 4000000) only [go_sem, g1, hto.1]
                by_cases ho0 : (decide (av ≥ 0)) = true
                · simp (maxSteps := 4000000) only [go_sem, g1, hto.1, ho0]
                  refine ⟨by kernel_rfl, hK _ ?_⟩
                  clear hK K
                  refine walkL_nil ?_
                  refine thenA_normal ?_
                  refine ⟨rfl, ?_⟩
                  rw [show (decide ((i : Int) ≤ k)) = (decide (av ≤ x.deadline)) from by simp [← hcb, ho0]]
                  simp (maxSteps := 4000000) only [go_sem]
                  refine weak_of [] ?_ ?_ rfl rfl <;> simp [lessT, lessM, lessB, AV.less]
                · simp (maxSteps := 4000000) only [go_sem, g1, hto.1, ho0]
                  refine ⟨by kernel_rfl, hK _ ?_⟩
                  clear hK K
                  refine walkL_nil ?_
                  refine thenA_normal ?_
                  refine ⟨rfl, ?_⟩
                  rw [show (decide ((i : Int) ≤ k)) = (false) from by simp [← hcb, ho0]]
                  simp (maxSteps := 4000000) only [go_sem]
                  refine weak_of [] ?_ ?_ rfl rfl <;> simp [lessT, lessM, lessB, AV.less]
              simp (maxSteps := 4000000) only [go_sem]
              repeat (first | refine walkL_seq ?_ | refine walkL_skip ?_ | refine walkL_block ?_ | (refine walkL_region fun K hK => ?_; simp (maxSteps := 4000000) only [go_sem, hn3]; refine hK _ ?_; clear hK K) | refine walkL_nil ?_ | refine walkL_ret ?_ | refine walkL_exit ?_ | refine blockA_here ?_ | refine blockA_other rfl ?_ | refine blockA_ret ?_ | refine blockA_normal ?_ | refine thenA_ret ?_ | refine thenA_exit ?_ | refine thenA_normal ?_)
              refine walkL_false rfl ?_
              repeat (first | refine walkL_seq ?_ | refine walkL_skip ?_ | refine walkL_block ?_ | (refine walkL_region fun K hK => ?_; simp (maxSteps := 4000000) only [go_sem, hw]; refine hK _ ?_; clear hK K) | refine walkL_nil ?_ | refine walkL_ret ?_ | refine walkL_exit ?_ | refine blockA_here ?_ | refine blockA_other rfl ?_ | refine blockA_ret ?_ | refine blockA_normal ?_ | refine thenA_ret ?_ | refine thenA_exit ?_ | refine thenA_normal ?_)
              refine ⟨rfl, i + 1, ?_, ⟨by omega, by omega⟩, by omega⟩
              rw [hpl0, hat]
              refine weak_of [] ?_ ?_ rfl rfl <;> simp [lessT, lessM, lessB, AV.less]
        · have hA' : decide ((i : Int) ≤ (x.route.length : Int)) = false ∨ (decide ((i : Int) ≤ (x.route.length : Int)) = true ∧ decide ((i : Int) ≤ k + 1) = false) := by
            by_cases h1 : (i : Int) ≤ x.route.length
            · right; exact ⟨by simpa using h1, by simp; omega⟩
            · left; simpa using h1
          rcases hA' with hA1 | ⟨hA1, hA2⟩
          · repeat (first | refine walkL_seq ?_ | refine walkL_skip ?_ | refine walkL_block ?_ | (refine walkL_region fun K hK => ?_; simp (maxSteps := 4000000) only [go_sem, hrl, hA1]; refine hK _ ?_; clear hK K) | refine walkL_nil ?_ | refine walkL_ret ?_ | refine walkL_exit ?_ | refine blockA_here ?_ | refine blockA_other rfl ?_ | refine blockA_ret ?_ | refine blockA_normal ?_ | refine thenA_ret ?_ | refine thenA_exit ?_ | refine thenA_normal ?_)
            refine walkL_false rfl ?_
            repeat (first | refine walkL_seq ?_ | refine walkL_skip ?_ | refine walkL_block ?_ | (refine walkL_region fun K hK => ?_; simp (maxSteps := 4000000) only [go_sem]; (repeat (first | (refine ⟨_, .lent (hf := f13) (hd := rfl) (hr := rfl), ?_⟩; simp (maxSteps := 4000000) only [go_sem]) | (refine ⟨_, .given (hf := f13) (hd := rfl) (ha := rfl), ?_⟩; simp (maxSteps := 4000000) only [go_sem]))); refine hK _ ?_; clear hK K) | refine walkL_nil ?_ | refine walkL_ret ?_ | refine walkL_exit ?_ | refine blockA_here ?_ | refine blockA_other rfl ?_ | refine blockA_ret ?_ | refine blockA_normal ?_ | refine thenA_ret ?_ | refine thenA_exit ?_ | refine thenA_normal ?_)
            simp (maxSteps := 4000000) only [go_sem]
          · repeat (first | refine walkL_seq ?_ | refine walkL_skip ?_ | refine walkL_block ?_ | (refine walkL_region fun K hK => ?_; simp (maxSteps := 4000000) only [go_sem, hrl, hA1, hwk, hA2]; refine hK _ ?_; clear hK K) | refine walkL_nil ?_ | refine walkL_ret ?_ | refine walkL_exit ?_ | refine blockA_here ?_ | refine blockA_other rfl ?_ | refine blockA_ret ?_ | refine blockA_normal ?_ | refine thenA_ret ?_ | refine thenA_exit ?_ | refine thenA_normal ?_)
            refine walkL_false rfl ?_
            repeat (first | refine walkL_seq ?_ | refine walkL_skip ?_ | refine walkL_block ?_ | (refine walkL_region fun K hK => ?_; simp (maxSteps := 4000000) only [go_sem]; (repeat (first | (refine ⟨_, .lent (hf := f13) (hd := rfl) (hr := rfl), ?_⟩; simp (maxSteps := 4000000) only [go_sem]) | (refine ⟨_, .given (hf := f13) (hd := rfl) (ha := rfl), ?_⟩; simp (maxSteps := 4000000) only [go_sem]))); refine hK _ ?_; clear hK K) | refine walkL_nil ?_ | refine walkL_ret ?_ | refine walkL_exit ?_ | refine blockA_here ?_ | refine blockA_other rfl ?_ | refine blockA_ret ?_ | refine blockA_normal ?_ | refine thenA_ret ?_ | refine thenA_exit ?_ | refine thenA_normal ?_)
            simp (maxSteps := 4000000) only [go_sem]
    · have hro' : isRouteB n p x.frm x.route = false := by simpa using hro
      repeat (first | refine walkL_seq ?_ | refine walkL_skip ?_ | refine walkL_block ?_ | (refine walkL_region fun K hK => ?_; simp (maxSteps := 4000000) only [go_sem, hfit, hro']; (repeat (first | (refine ⟨_, .lent (hf := h20) (hd := rfl) (hr := rfl), ?_⟩; simp (maxSteps := 4000000) only [go_sem, hfit, hro']) | (refine ⟨_, .lent (hf := h22) (hd := rfl) (hr := rfl), ?_⟩; simp (maxSteps := 4000000) only [go_sem, hfit, hro']) | (refine ⟨_, .given (hf := h20) (hd := rfl) (ha := rfl), ?_⟩; simp (maxSteps := 4000000) only [go_sem, hfit, hro']) | (refine ⟨_, .given (hf := h22) (hd := rfl) (ha := rfl), ?_⟩; simp (maxSteps := 4000000) only [go_sem, hfit, hro']))); refine hK _ ?_; clear hK K) | refine walkL_nil ?_ | refine walkL_ret ?_ | refine walkL_exit ?_ | refine blockA_here ?_ | refine blockA_other rfl ?_ | refine blockA_ret ?_ | refine blockA_normal ?_ | refine thenA_ret ?_ | refine thenA_exit ?_ | refine thenA_normal ?_)
      refine walkL_true rfl ?_
      repeat (first | refine walkL_seq ?_ | refine walkL_skip ?_ | refine walkL_block ?_ | (refine walkL_region fun K hK => ?_; simp (maxSteps := 4000000) only [go_sem]; (repeat (first | (refine ⟨_, .lent (hf := f13) (hd := rfl) (hr := rfl), ?_⟩; simp (maxSteps := 4000000) only [go_sem]) | (refine ⟨_, .given (hf := f13) (hd := rfl) (ha := rfl), ?_⟩; simp (maxSteps := 4000000) only [go_sem]))); refine hK _ ?_; clear hK K) | refine walkL_nil ?_ | refine walkL_ret ?_ | refine walkL_exit ?_ | refine blockA_here ?_ | refine blockA_other rfl ?_ | refine blockA_ret ?_ | refine blockA_normal ?_ | refine thenA_ret ?_ | refine thenA_exit ?_ | refine thenA_normal ?_)
      simp (maxSteps := 4000000) only [go_sem]
  · have hfit' : fitsB n p x = false := by simpa using hfit
    repeat (first | refine walkL_seq ?_ | refine walkL_skip ?_ | refine walkL_block ?_ | (refine walkL_region fun K hK => ?_; simp (maxSteps := 4000000) only [go_sem, hfit']; (repeat (first | (refine ⟨_, .lent (hf := h20) (hd := rfl) (hr := rfl), ?_⟩; simp (maxSteps := 4000000) only [go_sem, hfit']) | (refine ⟨_, .given (hf := h20) (hd := rfl) (ha := rfl), ?_⟩; simp (maxSteps := 4000000) only [go_sem, hfit']))); refine hK _ ?_; clear hK K) | refine walkL_nil ?_ | refine walkL_ret ?_ | refine walkL_exit ?_ | refine blockA_here ?_ | refine blockA_other rfl ?_ | refine blockA_ret ?_ | refine blockA_normal ?_ | refine thenA_ret ?_ | refine thenA_exit ?_ | refine thenA_normal ?_)
    refine walkL_true rfl ?_
    repeat (first | refine walkL_seq ?_ | refine walkL_skip ?_ | refine walkL_block ?_ | (refine walkL_region fun K hK => ?_; simp (maxSteps := 4000000) only [go_sem]; (repeat (first | (refine ⟨_, .lent (hf := f13) (hd := rfl) (hr := rfl), ?_⟩; simp (maxSteps := 4000000) only [go_sem]) | (refine ⟨_, .given (hf := f13) (hd := rfl) (ha := rfl), ?_⟩; simp (maxSteps := 4000000) only [go_sem]))); refine hK _ ?_; clear hK K) | refine walkL_nil ?_ | refine walkL_ret ?_ | refine walkL_exit ?_ | refine blockA_here ?_ | refine blockA_other rfl ?_ | refine blockA_ret ?_ | refine blockA_normal ?_ | refine thenA_ret ?_ | refine thenA_exit ?_ | refine thenA_normal ?_)
    simp (maxSteps := 4000000) only [go_sem]
end Go.Ab
/- Plain law of layer 1: the document's table is the program's arrivals. -/
namespace Go.Ab
open Go.RowKit Go.Proofs
set_option maxHeartbeats 1000000

theorem waysFrom_in (p : Party) (but : Int) : ∀ (l : List Path) (i j : Nat) (x : Path), l[j]? = some x → ((i + j : Nat) : Int) ≠ but → x.grade ≤ p.grade → (i + j, x) ∈ waysFrom p but l i
  | [], i, j, x, h, _, _ => by simp at h
  | y :: l, i, 0, x, h, h1, h2 => by
    simp at h; subst h
    unfold waysFrom
    rw [if_pos ⟨by simpa using h1, h2⟩]
    simp
  | y :: l, i, j + 1, x, h, h1, h2 => by
    have := waysFrom_in p but l (i + 1) j x (by simpa using h) (by rw [show i + 1 + j = i + (j + 1) by omega]; exact h1) h2
    rw [show i + 1 + j = i + (j + 1) by omega] at this
    unfold waysFrom
    split
    · exact List.mem_cons_of_mem _ this
    · exact this

theorem waysL_iff {n : Net} {p : Party} {but : Int} {w : Nat × Path} : w ∈ waysL n p but ↔ n.paths[w.1]? = some w.2 ∧ w.2.grade ≤ p.grade ∧ (w.1 : Int) ≠ but := by
  constructor
  · intro h
    obtain ⟨_, h2, h3, h4⟩ := waysFrom_mem p but n.paths 0 w h
    exact ⟨by simpa using h2, h3, h4⟩
  · rintro ⟨h1, h2, h3⟩
    have := waysFrom_in p but n.paths 0 w.1 w.2 h1 (by simpa using h3) h2
    simpa [waysL] using this

/-- The end of the span that is meant. -/
def endOf (high : Bool) (s : Span) : Int := if high then s.hi else s.lo

theorem ways_end {n : Net} {p : Party} (hn : n.Good) (hp : p.Good) (but : Int) (high : Bool) : OkWs n (fun x => endOf high (spanW x p)) (waysL n p but) := by
  cases high
  · exact (ways_ok hn hp but).2
  · exact (ways_ok hn hp but).1

section
variable {n : Net} {p : Party} {high : Bool} {but frm start : Int}

def TabInv (n : Net) (p : Party) (high : Bool) (but frm start : Int) (l : List Int) : Prop :=
  l.length = n.places.toNat ∧ ∀ y, 0 ≤ y → y < n.places → getI l y = never ∨ (0 ≤ getI l y ∧ getI l y ≤ 2880 ∧ Reach (waysL n p but) (fun x => endOf high (spanW x p)) frm start y (getI l y))

theorem relaxT_eq (hn : n.Good) (hp : p.Good) {l : List Int} (h : TabInv n p high but frm start l) (w : Path × Nat) (hw : n.paths[w.2]? = some w.1) :
    (relaxT p high but l w = l ∧ ((w.2, w.1) ∉ waysL n p but ∨ getI l w.1.frm = never)) ∨
    ((w.2, w.1) ∈ waysL n p but ∧ 0 ≤ getI l w.1.frm ∧ getI l w.1.frm ≤ 2880 ∧ Reach (waysL n p but) (fun x => endOf high (spanW x p)) frm start w.1.frm (getI l w.1.frm) ∧
      relaxT p high but l w = l.set w.1.to.toNat (min (getI l w.1.to) (arriveF w.1.opens (getI l w.1.frm) (endOf high (spanW w.1 p))))) := by
  have hg := hn.path w.1 (List.mem_of_getElem? hw)
  have hv : never = 1073741824 := rfl
  have hsp := span_ok hg hp
  unfold relaxT
  by_cases hb : relaxB p but l w = true
  · right
    rw [if_pos hb]
    simp only [relaxB, Bool.and_eq_true, bne_iff_ne, ne_eq, decide_eq_true_eq] at hb
    obtain ⟨b1, b2, b3⟩ := hb
    rcases h.2 w.1.frm hg.frm.1 hg.frm.2 with h1 | ⟨h1, h2, h3⟩
    · omega
    · refine ⟨waysL_iff.2 ⟨hw, b2, b1⟩, h1, h2, h3, ?_⟩
      rw [step_arrive h1 hsp.1 hsp.2.1]
      rfl
  · left
    rw [if_neg hb]
    refine ⟨rfl, ?_⟩
    by_cases hm : (w.2, w.1) ∈ waysL n p but
    · right
      obtain ⟨q1, q2, q3⟩ := waysL_iff.1 hm
      simp only [relaxB, Bool.and_eq_true, bne_iff_ne, ne_eq, decide_eq_true_eq] at hb
      rcases h.2 w.1.frm hg.frm.1 hg.frm.2 with h1 | ⟨h1, h2, h3⟩
      · exact h1
      · exact absurd ⟨q3, q2, by omega⟩ hb
    · exact .inl hm

/-- One path of a round: what was stays true, nothing rises, and the path has its say. -/
theorem relaxT_step (hn : n.Good) (hp : p.Good) {l : List Int} (h : TabInv n p high but frm start l) (w : Path × Nat) (hw : n.paths[w.2]? = some w.1) :
    TabInv n p high but frm start (relaxT p high but l w) ∧ (∀ y, 0 ≤ y → y < n.places → getI (relaxT p high but l w) y ≤ getI l y) ∧
    ((w.2, w.1) ∈ waysL n p but → getI l w.1.frm ≠ never → getI (relaxT p high but l w) w.1.to ≤ arriveF w.1.opens (getI l w.1.frm) (endOf high (spanW w.1 p))) := by
  have hg := hn.path w.1 (List.mem_of_getElem? hw)
  have hv : never = 1073741824 := rfl
  have hok := ways_end hn hp but high
  rcases relaxT_eq hn hp h w hw with ⟨e, h1⟩ | ⟨hm, h1, h2, h3, e⟩
  · rw [e]
    exact ⟨h, fun y _ _ => Int.le_refl _, fun a b => by rcases h1 with h1 | h1; exact absurd a h1; exact absurd h1 b⟩
  · obtain ⟨_, _, w3⟩ := hok _ hm
    have w3 : okTime (endOf high (spanW w.1 p)) := w3
    have hsz : w.1.to.toNat < l.length := by have := h.1; have := hg.to; omega
    rw [e]
    refine ⟨⟨by simpa using h.1, fun y hy hyn => ?_⟩, fun y hy hyn => ?_, fun _ _ => ?_⟩
    · rw [getI_set _ _ _ _ hg.to.1 hsz hy]
      split
      · rename_i e; subst e
        rcases arrive_range (opens := w.1.opens) h1 w3 with ha | ⟨ha, ha'⟩
        · have hmin : min (getI l w.1.to) (arriveF w.1.opens (getI l w.1.frm) (endOf high (spanW w.1 p))) = getI l w.1.to := by
            rcases h.2 w.1.to hg.to.1 hg.to.2 with h4 | h4 <;> omega
          rw [hmin]
          exact h.2 _ hg.to.1 hg.to.2
        · by_cases hlt : getI l w.1.to ≤ arriveF w.1.opens (getI l w.1.frm) (endOf high (spanW w.1 p))
          · rw [Int.min_eq_left hlt]; exact h.2 _ hg.to.1 hg.to.2
          · rw [Int.min_eq_right (by omega)]
            unfold okTime at w3
            exact .inr ⟨by omega, ha', .step (w.2, w.1) h3 hm rfl ha'⟩
      · exact h.2 y hy hyn
    · rw [getI_set _ _ _ _ hg.to.1 hsz hy]
      split
      · rename_i e; subst e; omega
      · exact Int.le_refl _
    · rw [getI_set _ _ _ _ hg.to.1 hsz hg.to.1, if_pos rfl]
      omega

theorem foldT_step (hn : n.Good) (hp : p.Good) : ∀ (ws : List (Path × Nat)) (l : List Int), (∀ w ∈ ws, n.paths[w.2]? = some w.1) → TabInv n p high but frm start l →
    TabInv n p high but frm start (ws.foldl (relaxT p high but) l) ∧ (∀ y, 0 ≤ y → y < n.places → getI (ws.foldl (relaxT p high but) l) y ≤ getI l y) ∧
    ∀ w ∈ ws, (w.2, w.1) ∈ waysL n p but → getI l w.1.frm ≠ never → getI (ws.foldl (relaxT p high but) l) w.1.to ≤ arriveF w.1.opens (getI l w.1.frm) (endOf high (spanW w.1 p))
  | [], l, _, h => ⟨h, fun y _ _ => Int.le_refl _, fun w hw => by cases hw⟩
  | v :: ws, l, hs, h => by
    rw [List.foldl_cons]
    have hv : never = 1073741824 := rfl
    obtain ⟨s1, s2, s3⟩ := relaxT_step hn hp h v (hs v (by simp))
    obtain ⟨i1, i2, i3⟩ := foldT_step hn hp ws _ (fun w hw => hs w (by simp [hw])) s1
    refine ⟨i1, fun y hy hyn => Int.le_trans (i2 y hy hyn) (s2 y hy hyn), fun w hw hm hne => ?_⟩
    have hg := hn.path w.1 (List.mem_of_getElem? (hs w hw))
    rcases List.mem_cons.1 hw with rfl | hw
    · exact Int.le_trans (i2 _ hg.to.1 hg.to.2) (s3 hm hne)
    · have hle := s2 w.1.frm hg.frm.1 hg.frm.2
      have hlo : 0 ≤ getI (relaxT p high but l v) w.1.frm ∧ getI (relaxT p high but l v) w.1.frm ≠ never := by
        rcases h.2 w.1.frm hg.frm.1 hg.frm.2 with h4 | ⟨h4, h5, _⟩
        · exact absurd h4 hne
        · rcases s1.2 w.1.frm hg.frm.1 hg.frm.2 with h6 | ⟨h6, h7, _⟩ <;> omega
      refine Int.le_trans (i3 w hw hm hlo.2) ?_
      exact arrive_mono hlo.1 hle ((ways_end hn hp but high) _ hm).2.2

theorem passT_step (hn : n.Good) (hp : p.Good) (l : List Int) (h : TabInv n p high but frm start l) :
    TabInv n p high but frm start (passT n p high but l) ∧ (∀ y, 0 ≤ y → y < n.places → getI (passT n p high but l) y ≤ getI l y) ∧
    ∀ w ∈ waysL n p but, getI l w.2.frm ≠ never → getI (passT n p high but l) w.2.to ≤ arriveF w.2.opens (getI l w.2.frm) (endOf high (spanW w.2 p)) := by
  have hz : ∀ w ∈ n.paths.zipIdx, n.paths[w.2]? = some w.1 := fun w hw => by simpa using List.mk_mem_zipIdx_iff_getElem?.1 hw
  obtain ⟨i1, i2, i3⟩ := foldT_step hn hp n.paths.zipIdx l hz h
  refine ⟨i1, i2, fun w hw hne => ?_⟩
  have hget := waysL_get hw
  exact i3 (w.2, w.1) (List.mk_mem_zipIdx_iff_getElem?.2 hget) hw hne

theorem arr0_inv (hf : 0 ≤ frm ∧ frm < n.places) (hs : 0 ≤ start ∧ start ≤ 2880) : TabInv n p high but frm start (arrivals0 n frm start) ∧ getI (arrivals0 n frm start) frm = start := by
  have hl : frm.toNat < (List.replicate n.places.toNat never).length := by simp; omega
  refine ⟨⟨by simp [arrivals0], fun y hy hyn => ?_⟩, ?_⟩
  · unfold arrivals0
    rw [getI_set _ _ _ _ hf.1 hl hy]
    split
    · rename_i e; subst e; exact .inr ⟨hs.1, hs.2, .refl⟩
    · left; unfold getI; rw [List.getD_eq_getElem?_getD, List.getElem?_replicate, if_pos (by omega)]; rfl
  · unfold arrivals0; rw [getI_set _ _ _ _ hf.1 hl hf.1, if_pos rfl]

/-- How many places have a lower value. -/
def lower (m : Nat) (d : Int → Int) (y : Int) : Nat := ((List.range m).filter fun (i : Nat) => decide (d i < d y)).length

theorem lower_lt {m : Nat} {d : Int → Int} {z y : Int} (h : d z < d y) (hz : 0 ≤ z ∧ z < m) : lower m d z < lower m d y := by
  unfold lower
  have hsub : (List.range m).filter (fun (i : Nat) => decide (d i < d z)) = ((List.range m).filter (fun (i : Nat) => decide (d i < d y))).filter (fun (i : Nat) => decide (d i < d z)) := by
    rw [List.filter_filter]
    refine List.filter_congr fun i _ => ?_
    by_cases h1 : d i < d z
    · simp [h1, Int.lt_trans h1 h]
    · simp [h1]
  rw [hsub]
  refine List.length_filter_lt_length_iff_exists.2 ⟨z.toNat, ?_, ?_⟩
  · simp only [List.mem_filter, List.mem_range, decide_eq_true_eq]
    refine ⟨by omega, ?_⟩
    rw [show ((z.toNat : Nat) : Int) = z by omega]; exact h
  · rw [show ((z.toNat : Nat) : Int) = z by omega]; simp

theorem lower_le {m : Nat} {d : Int → Int} {y : Int} (hy : 0 ≤ y ∧ y < m) : lower m d y < m := by
  have : lower m d y < (List.range m).length := by
    unfold lower
    refine List.length_filter_lt_length_iff_exists.2 ⟨y.toNat, by simp; omega, ?_⟩
    rw [show ((y.toNat : Nat) : Int) = y by omega]; simp
  simpa using this

/-- The document's table is the program's arrivals. -/
theorem table_get (hn : n.Good) (hp : p.Good) (hf : 0 ≤ frm ∧ frm < n.places) (hs : 0 ≤ start ∧ start ≤ 2880) (y : Int) (hy : 0 ≤ y) (hyn : y < n.places) :
    getI (tableL n p frm start high but) y = getI (arrivalsL n p (endOf high) frm start but) y := by
  have hv : never = 1073741824 := rfl
  have hok := ways_end hn hp but high
  obtain ⟨A1, A2⟩ := arr_spec (q := endOf high) hok hf hs
  obtain ⟨D, hD⟩ : ∃ D : Int → Int, D = fun z => getI (arrivalsL n p (endOf high) frm start but) z := ⟨_, rfl⟩
  have A1' : ∀ y, 0 ≤ y → y < n.places → D y = never ∨ (0 ≤ D y ∧ D y ≤ 2880 ∧ Reach (waysL n p but) (fun x => endOf high (spanW x p)) frm start y (D y)) := by rw [hD]; exact A1
  have A2' : ∀ y t, Reach (waysL n p but) (fun x => endOf high (spanW x p)) frm start y t → D y ≤ t := by rw [hD]; exact A2
  clear A1 A2
  obtain ⟨L, hL⟩ : ∃ L : Nat → List Int, L = fun k => iterL (passT n p high but) k (arrivals0 n frm start) := ⟨_, rfl⟩
  have hL0 : L 0 = arrivals0 n frm start := by rw [hL]; rfl
  have hLs : ∀ k, L (k + 1) = passT n p high but (L k) := by intro k; rw [hL]; rfl
  have hinv : ∀ k, TabInv n p high but frm start (L k) := by
    intro k
    induction k with
    | zero => rw [hL0]; exact (arr0_inv hf hs).1
    | succ k ih => rw [hLs]; exact (passT_step hn hp _ ih).1
  have hge : ∀ k y, 0 ≤ y → y < n.places → D y ≤ getI (L k) y := by
    intro k y hy hyn
    rcases (hinv k).2 y hy hyn with h | ⟨_, _, h⟩
    · rcases A1' y hy hyn with h' | h' <;> omega
    · exact A2' y _ h
  have hfr : ∀ k, getI (L k) frm = start := by
    intro k
    have hle : getI (L k) frm ≤ start := by
      induction k with
      | zero => rw [hL0, (arr0_inv (p := p) (high := high) (but := but) hf hs).2]; exact Int.le_refl _
      | succ k ih => rw [hLs]; exact Int.le_trans ((passT_step hn hp _ (hinv k)).2.1 frm hf.1 hf.2) ih
    rcases (hinv k).2 frm hf.1 hf.2 with h | ⟨h1, h2, h3⟩
    · omega
    · have := h3.range hok hs hf; omega
  have key : ∀ k y, 0 ≤ y → y < n.places → D y ≠ never → lower n.places.toNat D y ≤ k → getI (L k) y = D y := by
    intro k
    induction k with
    | zero =>
      intro y hy hyn hne hlow
      rcases A1' y hy hyn with h | ⟨h1, h2, h3⟩
      · exact absurd h hne
      obtain ⟨dy, hdy⟩ : ∃ dy, dy = D y := ⟨_, rfl⟩
      rw [← hdy] at h3 h2 h1 ⊢
      cases h3 with
      | refl => exact hfr 0
      | @step z t w hr hm hfe hle =>
        exfalso
        have hrg := hr.range hok hs hf
        obtain ⟨_, _, w3⟩ := hok w hm
        have w3 : okTime (endOf high (spanW w.2 p)) := w3
        have hlt : D z < D w.2.to := by
          have h4 := A2' z t hr
          rcases arrive_range (opens := w.2.opens) (t := t) (by omega) w3 with h | h
          · omega
          · unfold okTime at w3; omega
        have := lower_lt (m := n.places.toNat) hlt (by omega)
        omega
    | succ k ih =>
      intro y hy hyn hne hlow
      have hge' := hge (k + 1) y hy hyn
      rcases A1' y hy hyn with h | ⟨h1, h2, h3⟩
      · exact absurd h hne
      obtain ⟨dy, hdy⟩ : ∃ dy, dy = D y := ⟨_, rfl⟩
      rw [← hdy] at h3 hge' h2 h1 ⊢
      cases h3 with
      | refl => exact hfr (k + 1)
      | @step z t w hr hm hfe hle =>
        have hrg := hr.range hok hs hf
        obtain ⟨_, _, w3⟩ := hok w hm
        have w3 : okTime (endOf high (spanW w.2 p)) := w3
        have h4 := A2' z t hr
        have hlt : D z < D w.2.to := by
          rcases arrive_range (opens := w.2.opens) (t := t) (by omega) w3 with h | h
          · omega
          · unfold okTime at w3; omega
        have hlz := lower_lt (m := n.places.toNat) hlt (by omega)
        have hDz : D z ≠ never := by omega
        have hz := ih z (by omega) (by omega) hDz (by omega)
        have hz0 : 0 ≤ D z := by rcases A1' z (by omega) (by omega) with h | h <;> omega
        have hp' := (passT_step hn hp _ (hinv k)).2.2 w hm (by rw [hfe, hz]; exact hDz)
        rw [← hLs, hfe, hz] at hp'
        have := arrive_mono (opens := w.2.opens) hz0 h4 w3
        change getI (L (k + 1)) w.2.to = arriveF w.2.opens t (endOf high (spanW w.2 p))
        change arriveF w.2.opens t (endOf high (spanW w.2 p)) ≤ _ at hge'
        omega
  have hfin : getI (L n.places.toNat) y = D y := by
    by_cases hne : D y = never
    · have h1 := hge n.places.toNat y hy hyn
      rcases (hinv n.places.toNat).2 y hy hyn with h | h
      · rw [h, hne]
      · omega
    · exact key _ y hy hyn hne (Nat.le_of_lt (lower_le (by omega)))
  rw [hL, hD] at hfin
  exact hfin

theorem getI_ext {a b : List Int} {m : Nat} (ha : a.length = m) (hb : b.length = m) (h : ∀ y : Int, 0 ≤ y → y < m → getI a y = getI b y) : a = b := by
  refine List.ext_getElem (by omega) fun i h1 h2 => ?_
  have := h i (by omega) (by omega)
  unfold getI at this
  simpa [List.getD_eq_getElem?_getD, h1, h2] using this

theorem arrivalsL_len {n : Net} {p : Party} {q : Span → Int} {frm start but : Int} (hw : OkWs n (fun x => q (spanW x p)) (waysL n p but)) (hf : 0 ≤ frm ∧ frm < n.places) (hs : 0 ≤ start ∧ start ≤ 2880) : (arrivalsL n p q frm start but).length = n.places.toNat := by
  have h0 : ArrInv n (waysL n p but) (fun x => q (spanW x p)) frm start (arrivals0 n frm start) := by
    have hl : frm.toNat < (List.replicate n.places.toNat never).length := by simp; omega
    refine ⟨by simp [arrivals0], ?_, fun y hy hyn => ?_⟩
    · unfold arrivals0; rw [getI_set _ _ _ _ hf.1 hl hf.1, if_pos rfl]; exact Int.le_refl _
    · unfold arrivals0
      rw [getI_set _ _ _ _ hf.1 hl hy]
      split
      · rename_i e; subst e; exact .inr ⟨hs.1, hs.2, .refl⟩
      · left; unfold getI; rw [List.getD_eq_getElem?_getD, List.getElem?_replicate, if_pos (by omega)]; rfl
  exact (fixA_spec hw hf (fallM (arrivals0 n frm start) + 1) (arrivals0 n frm start) (Nat.lt_succ_self _) h0).1.1

theorem table_eq (hn : n.Good) (hp : p.Good) (hf : 0 ≤ frm ∧ frm < n.places) (hs : 0 ≤ start ∧ start ≤ 2880) :
    tableL n p frm start high but = arrivalsL n p (endOf high) frm start but := by
  refine getI_ext (m := n.places.toNat) ?_ (arrivalsL_len (ways_end hn hp but high) hf hs) fun y hy hyn => table_get hn hp hf hs y hy (by omega)
  unfold tableL
  rw [iterL_len _ (passT_len n p high but)]
  simp [arrivals0]
end
end Go.Ab
namespace Go.Ab
open Go.RowKit Go.Proofs
set_option maxHeartbeats 4000000
set_option maxRecDepth 20000
attribute [local irreducible] WalkL Walk

theorem spanRows_head (l : List Span) : headIs 2 (l.map Span.row) = true := by cases l <;> rfl
theorem pathRows_head (l : List Path) : headIs 8 (l.map Path.row) = true := by cases l <;> rfl

/-- Copy returns an equal net. -/
theorem f14 (n : Net) (hs : n.Small) : Fn Try.prog 14 [.agg n.cells] (.agg n.cells) := by
  have hpl := hs.paths
  refine fn_walk 33 Try.call14 Try.func14 rfl (by decide) fun J => ?_
  simp (maxSteps := 4000000) only [go_sem, St.start, Try.ntmps14, Try.results14, Net.cells]
  repeat (first | refine walkL_seq ?_ | refine walkL_skip ?_ | refine walkL_block ?_ | (refine walkL_region fun K hK => ?_; simp (maxSteps := 4000000) only [go_sem]; refine hK _ ?_; clear hK K) | refine walkL_nil ?_ | refine walkL_ret ?_ | refine walkL_exit ?_ | refine blockA_here ?_ | refine blockA_other rfl ?_ | refine blockA_ret ?_ | refine blockA_normal ?_ | refine thenA_ret ?_ | refine thenA_exit ?_ | refine thenA_normal ?_)
  refine walkL_loopS (fun (i : Nat) => [(4, .d (.i i))]) (fun i => [(3, some (.box [.d (.i n.places), .own 30])), (30, some (.arr 49 8 ((n.paths.take i).map Path.row)))]) (fun i => i ≤ n.paths.length) (fun i => n.paths.length - i) 0 ?_ (Nat.zero_le _) ?_
  · simp (maxSteps := 4000000) only [go_sem]
    refine weak_of [30] ?_ ?_ rfl rfl <;> simp [lessT, lessM, lessB, AV.less]
  · intro i hi
    simp (maxSteps := 4000000) only [go_sem]
    repeat (first | refine walkL_seq ?_ | refine walkL_skip ?_ | refine walkL_block ?_ | (refine walkL_region fun K hK => ?_; simp (maxSteps := 4000000) only [go_sem]; refine hK _ ?_; clear hK K) | refine walkL_nil ?_ | refine walkL_ret ?_ | refine walkL_exit ?_ | refine blockA_here ?_ | refine blockA_other rfl ?_ | refine blockA_ret ?_ | refine blockA_normal ?_ | refine thenA_ret ?_ | refine thenA_exit ?_ | refine thenA_normal ?_)
    refine walkL_cond rfl (fun hb => ?_) (fun hb => ?_)
    · have hlt : i < n.paths.length := by simpa using hb
      have hw : IntKind.i64.wrap ((i : Int) + 1) = ((i + 1 : Nat) : Int) := by rw [wr_small (by omega)]; simp
      obtain ⟨x, hx⟩ : ∃ x, n.paths[i]? = some x := ⟨_, List.getElem?_eq_getElem hlt⟩
      have hxo := hs.opens x (List.mem_of_getElem? hx)
      have h1 : x.opens.length ≤ 549755813888 := by omega
      have h2 : min i n.paths.length + 1 ≤ 549755813888 := by omega
      have h3 : (n.paths.take (i + 1)).map Path.row = (n.paths.take i).map Path.row ++ [x.row] := by rw [List.take_add_one, hx]; simp
      repeat (first | refine walkL_seq ?_ | refine walkL_skip ?_ | refine walkL_block ?_ | (refine walkL_region fun K hK => ?_; simp (maxSteps := 4000000) only [go_sem, hx, List.getElem?_map, Path.row, h1, h2, spanRows_head, List.length_take, hw]; refine hK _ ?_; clear hK K) | refine walkL_nil ?_ | refine walkL_ret ?_ | refine walkL_exit ?_ | refine blockA_here ?_ | refine blockA_other rfl ?_ | refine blockA_ret ?_ | refine blockA_normal ?_ | refine thenA_ret ?_ | refine thenA_exit ?_ | refine thenA_normal ?_)
      refine ⟨rfl, i + 1, ?_, hlt, by omega⟩
      rw [h3]
      refine weak_of [] ?_ ?_ rfl rfl <;> simp [lessT, lessM, lessB, AV.less]
      first | done | rfl
    · have he : i = n.paths.length := by (have : ¬ i < n.paths.length := by simpa using hb); omega
      subst he
      repeat (first | refine walkL_seq ?_ | refine walkL_skip ?_ | refine walkL_block ?_ | (refine walkL_region fun K hK => ?_; simp (maxSteps := 4000000) only [go_sem]; refine hK _ ?_; clear hK K) | refine walkL_nil ?_ | refine walkL_ret ?_ | refine walkL_exit ?_ | refine blockA_here ?_ | refine blockA_other rfl ?_ | refine blockA_ret ?_ | refine blockA_normal ?_ | refine thenA_ret ?_ | refine thenA_exit ?_ | refine thenA_normal ?_)
      simp (maxSteps := 4000000) only [go_sem, List.take_length]

/-- .. in memory of its own. -/
theorem f14m (n : Net) (hs : n.Small) : FnG Try.prog 14 [] [] [.d (.agg n.cells)] (.agg [.d (.i n.places), .own 0]) [.arr 49 8 (n.paths.map Path.row)] := by
  have hpl := hs.paths
  refine fnG_walk 33 Try.call14 Try.func14 rfl (by decide) [30] [] (by simp only [List.length_cons, List.length_nil]; decide) (by kernel_rfl) fun J => ?_
  simp (maxSteps := 4000000) only [go_sem, St.startG, Try.ntmps14, Try.results14, List.map_cons, List.map_nil, List.range_succ,  Net.cells]
  repeat (first | refine walkL_seq ?_ | refine walkL_skip ?_ | refine walkL_block ?_ | (refine walkL_region fun K hK => ?_; simp (maxSteps := 4000000) only [go_sem]; refine hK _ ?_; clear hK K) | refine walkL_nil ?_ | refine walkL_ret ?_ | refine walkL_exit ?_ | refine blockA_here ?_ | refine blockA_other rfl ?_ | refine blockA_ret ?_ | refine blockA_normal ?_ | refine thenA_ret ?_ | refine thenA_exit ?_ | refine thenA_normal ?_)
  refine walkL_loopS (fun (i : Nat) => [(4, .d (.i i))]) (fun i => [(3, some (.box [.d (.i n.places), .own 30])), (30, some (.arr 49 8 ((n.paths.take i).map Path.row)))]) (fun i => i ≤ n.paths.length) (fun i => n.paths.length - i) 0 ?_ (Nat.zero_le _) ?_
  · simp (maxSteps := 4000000) only [go_sem]
    refine weak_of [30] ?_ ?_ rfl rfl <;> simp [lessT, lessM, lessB, AV.less]
  · intro i hi
    simp (maxSteps := 4000000) only [go_sem]
    repeat (first | refine walkL_seq ?_ | refine walkL_skip ?_ | refine walkL_block ?_ | (refine walkL_region fun K hK => ?_; simp (maxSteps := 4000000) only [go_sem]; refine hK _ ?_; clear hK K) | refine walkL_nil ?_ | refine walkL_ret ?_ | refine walkL_exit ?_ | refine blockA_here ?_ | refine blockA_other rfl ?_ | refine blockA_ret ?_ | refine blockA_normal ?_ | refine thenA_ret ?_ | refine thenA_exit ?_ | refine thenA_normal ?_)
    refine walkL_cond rfl (fun hb => ?_) (fun hb => ?_)
    · have hlt : i < n.paths.length := by simpa using hb
      have hw : IntKind.i64.wrap ((i : Int) + 1) = ((i + 1 : Nat) : Int) := by rw [wr_small (by omega)]; simp
      obtain ⟨x, hx⟩ : ∃ x, n.paths[i]? = some x := ⟨_, List.getElem?_eq_getElem hlt⟩
      have hxo := hs.opens x (List.mem_of_getElem? hx)
      have h1 : x.opens.length ≤ 549755813888 := by omega
      have h2 : min i n.paths.length + 1 ≤ 549755813888 := by omega
      have h3 : (n.paths.take (i + 1)).map Path.row = (n.paths.take i).map Path.row ++ [x.row] := by rw [List.take_add_one, hx]; simp
      repeat (first | refine walkL_seq ?_ | refine walkL_skip ?_ | refine walkL_block ?_ | (refine walkL_region fun K hK => ?_; simp (maxSteps := 4000000) only [go_sem, hx, List.getElem?_map, Path.row, h1, h2, spanRows_head, List.length_take, hw]; refine hK _ ?_; clear hK K) | refine walkL_nil ?_ | refine walkL_ret ?_ | refine walkL_exit ?_ | refine blockA_here ?_ | refine blockA_other rfl ?_ | refine blockA_ret ?_ | refine blockA_normal ?_ | refine thenA_ret ?_ | refine thenA_exit ?_ | refine thenA_normal ?_)
      refine ⟨rfl, i + 1, ?_, hlt, by omega⟩
      rw [h3]
      refine weak_of [] ?_ ?_ rfl rfl <;> simp [lessT, lessM, lessB, AV.less]
      first | done | rfl
    · have he : i = n.paths.length := by (have : ¬ i < n.paths.length := by simpa using hb); omega
      subst he
      repeat (first | refine walkL_seq ?_ | refine walkL_skip ?_ | refine walkL_block ?_ | (refine walkL_region fun K hK => ?_; simp (maxSteps := 4000000) only [go_sem]; refine hK _ ?_; clear hK K) | refine walkL_nil ?_ | refine walkL_ret ?_ | refine walkL_exit ?_ | refine blockA_here ?_ | refine blockA_other rfl ?_ | refine blockA_ret ?_ | refine blockA_normal ?_ | refine thenA_ret ?_ | refine thenA_exit ?_ | refine thenA_normal ?_)
      simp (maxSteps := 4000000) only [go_sem, List.take_length, retG]
end Go.Ab
/- Plain laws of layer 1: what the document returns is what the program returns. -/
namespace Go.Ab
open Go.RowKit Go.Proofs
set_option maxHeartbeats 1000000

theorem endOf_true : endOf true = spanHi := rfl
theorem endOf_false : endOf false = spanLo := rfl

section
variable {n : Net} {p : Party} {frm start to deadline : Int}

theorem sure_eq (hn : n.Good) (hp : p.Good) (hf : 0 ≤ frm ∧ frm < n.places) (hs : 0 ≤ start ∧ start ≤ 2880) (but : Int) : sureF n p frm start to but = getI (arrivalsL n p spanHi frm start but) to := by
  unfold sureF
  rw [table_eq hn hp hf hs, endOf_true]

theorem vital_eq : refVitalL n p frm start to deadline = vitalL n p frm start to deadline := by
  unfold refVitalL vitalL
  by_cases h : openF n p [frm, to] [start, deadline] = 0
  · have ho := open_iff.1 h
    have hf := ho.place frm (by simp)
    have hs := ho.minute start (by simp)
    simp only [sure_eq ho.net ho.party hf hs]
  · rw [if_neg h, if_neg h]

theorem within_eq : refWithinL n p frm start deadline = withinL n p frm start deadline := by
  unfold refWithinL withinL
  by_cases h : openF n p [frm] [start, deadline] = 0
  · have ho := open_iff.1 h
    have hf := ho.place frm (by simp)
    have hs := ho.minute start (by simp)
    rw [table_eq ho.net ho.party hf hs, table_eq ho.net ho.party hf hs, endOf_true, endOf_false]
  · rw [if_neg h, if_neg h]

theorem shown_told (hn : n.Good) (hp : p.Good) (hf : 0 ≤ frm ∧ frm < n.places) (hs : 0 ≤ start ∧ start ≤ 2880) (high : Bool) (but : Int) : (arrivalsL n p (endOf high) frm start but).map shown1 = (arrivalsL n p (endOf high) frm start but).map told1 := by
  have hv : never = 1073741824 := rfl
  refine List.map_congr_left fun t ht => ?_
  obtain ⟨i, hi⟩ := List.getElem?_of_mem ht
  have hlen := arrivalsL_len (p := p) (but := but) (ways_end hn hp but high) hf hs
  have hil := (List.getElem?_eq_some_iff.1 hi).1
  have hg : getI (arrivalsL n p (endOf high) frm start but) (i : Int) = t := by unfold getI; simp [List.getD_eq_getElem?_getD, hi]
  have hr := (arr_spec (q := endOf high) (but := but) (ways_end hn hp but high) hf hs).1 (i : Int) (by omega) (by omega)
  rw [hg] at hr
  unfold shown1 told1
  rcases hr with hr | ⟨h1, h2, _⟩
  · rw [if_pos (by omega), if_pos hr]
  · rw [if_neg (by omega), if_neg (by omega)]

theorem arriveL_eq : refArriveL n p frm start = arriveL n p frm start := by
  unfold refArriveL arriveL
  by_cases h : openF n p [frm] [start] = 0
  · have ho := open_iff.1 h
    have hf := ho.place frm (by simp)
    have hs := ho.minute start (by simp)
    rw [table_eq ho.net ho.party hf hs, table_eq ho.net ho.party hf hs, shown_told ho.net ho.party hf hs, shown_told ho.net ho.party hf hs, endOf_true, endOf_false]
  · rw [if_neg h, if_neg h]

theorem findDown_eq {q : Int → Bool} {D : Int} (hD : -1 ≤ D) : ∀ (k : Nat), D < k → (∀ t : Nat, t < k → q t = decide ((t : Int) ≤ D)) → findDown q k = if D = -1 then none else some D.toNat
  | 0, h, _ => by rw [if_pos (by omega)]; rfl
  | k + 1, h, hq => by
    unfold findDown
    rw [hq k (Nat.lt_succ_self k)]
    by_cases hk : (k : Int) ≤ D
    · rw [if_pos (by simpa using hk), if_neg (by omega), show D.toNat = k by omega]
    · rw [if_neg (by simpa using hk)]
      exact findDown_eq hD k (by omega) fun t ht => hq t (by omega)

theorem latest_eq : refLatestL n p frm to deadline = latestL n p frm to deadline := by
  unfold refLatestL latestL
  by_cases h : openF n p [frm, to] [deadline] = 0
  · have ho := open_iff.1 h
    have hf := ho.place frm (by simp)
    have ht := ho.place to (by simp)
    have hd := ho.minute deadline (by simp)
    rw [if_pos h, if_pos h]
    obtain ⟨d1, d2⟩ := dead_spec ho.net ho.party ht hd
    obtain ⟨D, hD⟩ : ∃ D, D = getI (deadlinesL n p to deadline) frm := ⟨_, rfl⟩
    have hD1 := d1 frm hf.1 hf.2
    rw [← hD] at hD1 ⊢
    have hDd : D ≤ deadline := by
      by_cases h0 : 0 ≤ D
      · obtain ⟨t, h1, h2⟩ := (d2 frm D hf.1 hf.2 h0 hD1.2).1 (by rw [hD]; exact Int.le_refl _)
        have := h2.range (ways_ok ho.net ho.party (-1)).1 ⟨h0, hD1.2⟩ hf
        omega
      · omega
    rw [findDown_eq (D := D) hD1.1 _ (by omega) fun t htl => ?_]
    · by_cases h1 : D = -1
      · simp [h1]
      · rw [if_neg h1, if_neg h1]
        simp only [Prod.mk.injEq, and_true]
        omega
    · have hts : 0 ≤ (t : Int) ∧ (t : Int) ≤ 2880 := by omega
      rw [sure_eq ho.net ho.party hf hts, hD]
      have := comes_iff ho.net ho.party hf ht hts hd
      simp only [this]
  · rw [if_neg h, if_neg h]
end
end Go.Ab
namespace Go.Ab
open Go.RowKit Go.Proofs
set_option maxHeartbeats 4000000
set_option maxRecDepth 20000
attribute [local irreducible] WalkL Walk

def checkTurnF (n : Net) (p : Party) (route : List Int) (frm start home deadline : Int) : Int :=
  if openF n p [frm, home] [start, deadline] = 0 then (if isRouteB n p frm route = true then 0 else 12) else openF n p [frm, home] [start, deadline]

theorem f81 (n : Net) (p : Party) (route : List Int) (frm start home deadline : Int) (hs : n.Small) (hr : route.length < 2 ^ 30) : Fn Try.prog 81 [.agg n.cells, .agg p.cells, .sl (intRows route), .i frm, .i start, .i home, .i deadline]
    (.i (checkTurnF n p route frm start home deadline)) := by
  have h52 := f52 n p [frm, home] [start, deadline] hs (by simp) (by simp)
  have h22 := f22 n p route frm hs.paths hr
  refine fn_walk 34 Try.call81 Try.func81 rfl (by decide) fun J => ?_
  simp (maxSteps := 4000000) only [go_sem, St.start, Try.ntmps81, Try.results81, Net.cells, Party.cells]
  repeat (first | refine walkL_seq ?_ | refine walkL_skip ?_ | refine walkL_block ?_ | (refine walkL_region fun K hK => ?_; simp (maxSteps := 4000000) only [go_sem]; (repeat (first | (refine ⟨_, .lent (hf := h52) (hd := rfl) (hr := rfl), ?_⟩; simp (maxSteps := 4000000) only [go_sem]) | (refine ⟨_, .given (hf := h52) (hd := rfl) (ha := rfl), ?_⟩; simp (maxSteps := 4000000) only [go_sem]))); refine hK _ ?_; clear hK K) | refine walkL_nil ?_ | refine walkL_ret ?_ | refine walkL_exit ?_ | refine blockA_here ?_ | refine blockA_other rfl ?_ | refine blockA_ret ?_ | refine blockA_normal ?_ | refine thenA_ret ?_ | refine thenA_exit ?_ | refine thenA_normal ?_)
  refine walkL_cond rfl (fun hc => ?_) (fun hc => ?_)
  · have hc : ¬ openF n p [frm, home] [start, deadline] = 0 := by simpa using hc
    repeat (first | refine walkL_seq ?_ | refine walkL_skip ?_ | refine walkL_block ?_ | (refine walkL_region fun K hK => ?_; simp (maxSteps := 4000000) only [go_sem]; refine hK _ ?_; clear hK K) | refine walkL_nil ?_ | refine walkL_ret ?_ | refine walkL_exit ?_ | refine blockA_here ?_ | refine blockA_other rfl ?_ | refine blockA_ret ?_ | refine blockA_normal ?_ | refine thenA_ret ?_ | refine thenA_exit ?_ | refine thenA_normal ?_)
    simp (maxSteps := 4000000) only [go_sem, checkTurnF, hc]
  · have hop : openF n p [frm, home] [start, deadline] = 0 := by simpa using hc
    repeat (first | refine walkL_seq ?_ | refine walkL_skip ?_ | refine walkL_block ?_ | (refine walkL_region fun K hK => ?_; simp (maxSteps := 4000000) only [go_sem]; (repeat (first | (refine ⟨_, .lent (hf := h22) (hd := rfl) (hr := rfl), ?_⟩; simp (maxSteps := 4000000) only [go_sem]) | (refine ⟨_, .given (hf := h22) (hd := rfl) (ha := rfl), ?_⟩; simp (maxSteps := 4000000) only [go_sem]))); refine hK _ ?_; clear hK K) | refine walkL_nil ?_ | refine walkL_ret ?_ | refine walkL_exit ?_ | refine blockA_here ?_ | refine blockA_other rfl ?_ | refine blockA_ret ?_ | refine blockA_normal ?_ | refine thenA_ret ?_ | refine thenA_exit ?_ | refine thenA_normal ?_)
    refine walkL_cond rfl (fun hc => ?_) (fun hc => ?_)
    · have hc : isRouteB n p frm route = false := by simpa using hc
      repeat (first | refine walkL_seq ?_ | refine walkL_skip ?_ | refine walkL_block ?_ | (refine walkL_region fun K hK => ?_; simp (maxSteps := 4000000) only [go_sem]; refine hK _ ?_; clear hK K) | refine walkL_nil ?_ | refine walkL_ret ?_ | refine walkL_exit ?_ | refine blockA_here ?_ | refine blockA_other rfl ?_ | refine blockA_ret ?_ | refine blockA_normal ?_ | refine thenA_ret ?_ | refine thenA_exit ?_ | refine thenA_normal ?_)
      simp (maxSteps := 4000000) only [go_sem, checkTurnF, hop, hc]
    · have hc : isRouteB n p frm route = true := by simpa using hc
      repeat (first | refine walkL_seq ?_ | refine walkL_skip ?_ | refine walkL_block ?_ | (refine walkL_region fun K hK => ?_; simp (maxSteps := 4000000) only [go_sem]; refine hK _ ?_; clear hK K) | refine walkL_nil ?_ | refine walkL_ret ?_ | refine walkL_exit ?_ | refine blockA_here ?_ | refine blockA_other rfl ?_ | refine blockA_ret ?_ | refine blockA_normal ?_ | refine thenA_ret ?_ | refine thenA_exit ?_ | refine thenA_normal ?_)
      simp (maxSteps := 4000000) only [go_sem, checkTurnF, hop, hc]

/-- A minute on a route is a minute, or never. -/
theorem posR_top {n : Net} {p : Party} (hn : n.Good) (hp : p.Good) {l : List Int} (hl : ∀ v ∈ l, onNet n v) {s : Int × Int} (h1 : 0 ≤ s.1 ∧ s.1 < n.places) (h2 : 0 ≤ s.2 ∧ s.2 ≤ 2880) : ∀ i, (posR n p s l i).2 = never ∨ (posR n p s l i).2 ≤ 2880
  | 0 => .inr h2.2
  | i + 1 => by
    cases hv : l[i]? with
    | none =>
      have : posR n p s l (i + 1) = posR n p s l i := by
        unfold posR
        rw [List.take_add_one, hv]; simp
      rw [this]
      exact posR_top hn hp hl h1 h2 i
    | some v =>
      rw [posR_succ hv]
      obtain ⟨e1, e2⟩ := pathAt_mem (hl v (List.mem_of_getElem? hv))
      rcases arrive_range (opens := (pathAt n v).opens) (posR_range hn hp hl h1 h2.1 i).2 (span_ok (hn.path _ e2) hp).1 with h | h
      · exact .inl h
      · exact .inr h.2

theorem f39 (n : Net) (p : Party) (route : List Int) (frm start home deadline : Int) (hs : n.Small) (hr : route.length < 2 ^ 30) : Fn Try.prog 39 [.agg n.cells, .agg p.cells, .sl (intRows route), .i frm, .i start, .i home, .i deadline]
    (.tup [.i (turnL n p route frm start home deadline).1, .i (turnL n p route frm start home deadline).2]) := by
  have h81 := f81 n p route frm start home deadline hs hr
  have hrl := intRows_len route
  refine fn_walk 73 Try.call39 Try.func39 rfl (by decide) fun J => ?_
  simp (maxSteps := 4000000) only [go_sem, St.start, Try.ntmps39, Try.results39, Net.cells, Party.cells]
  repeat (first | refine walkL_seq ?_ | refine walkL_skip ?_ | refine walkL_block ?_ | (refine walkL_region fun K hK => ?_; simp (maxSteps := 4000000) only [go_sem]; (repeat (first | (refine ⟨_, .lent (hf := h81) (hd := rfl) (hr := rfl), ?_⟩; simp (maxSteps := 4000000) only [go_sem]) | (refine ⟨_, .given (hf := h81) (hd := rfl) (ha := rfl), ?_⟩; simp (maxSteps := 4000000) only [go_sem]))); refine hK _ ?_; clear hK K) | refine walkL_nil ?_ | refine walkL_ret ?_ | refine walkL_exit ?_ | refine blockA_here ?_ | refine blockA_other rfl ?_ | refine blockA_ret ?_ | refine blockA_normal ?_ | refine thenA_ret ?_ | refine thenA_exit ?_ | refine thenA_normal ?_)
  refine walkL_cond rfl (fun hc => ?_) (fun hc => ?_)
  · have hc : checkTurnF n p route frm start home deadline ≠ 0 := by simpa using hc
    have e : turnL n p route frm start home deadline = (0, checkTurnF n p route frm start home deadline) := by
      unfold checkTurnF at hc ⊢
      unfold turnL
      split
      · rename_i h1
        rw [if_pos h1] at hc
        split
        · rename_i h2; rw [if_pos h2] at hc; exact absurd rfl hc
        · rename_i h2; simp
      · rename_i h1; simp
    repeat (first | refine walkL_seq ?_ | refine walkL_skip ?_ | refine walkL_block ?_ | (refine walkL_region fun K hK => ?_; simp (maxSteps := 4000000) only [go_sem]; refine hK _ ?_; clear hK K) | refine walkL_nil ?_ | refine walkL_ret ?_ | refine walkL_exit ?_ | refine blockA_here ?_ | refine blockA_other rfl ?_ | refine blockA_ret ?_ | refine blockA_normal ?_ | refine thenA_ret ?_ | refine thenA_exit ?_ | refine thenA_normal ?_)
    simp (maxSteps := 4000000) only [go_sem, e]
  · have hc : checkTurnF n p route frm start home deadline = 0 := by simpa using hc
    have hop : openF n p [frm, home] [start, deadline] = 0 := by
      unfold checkTurnF at hc
      split at hc
      · assumption
      · exact hc
    have hro : isRouteB n p frm route = true := by
      unfold checkTurnF at hc
      rw [if_pos hop] at hc
      split at hc
      · assumption
      · cases hc
    have ho := open_iff.1 hop
    have hfr := ho.place frm (by simp)
    have hto := ho.place home (by simp)
    have hst := ho.minute start (by simp)
    have hdl := ho.minute deadline (by simp)
    obtain ⟨k, hk0, hk1, hk2, hk3, hk4⟩ := turnL_spec hop hro
    have hon := isRoute_on hro
    have hrange := posR_range ho.net ho.party hon (s := (frm, start)) hfr hst.1
    have htop := posR_top ho.net ho.party hon (s := (frm, start)) hfr hst
    obtain ⟨pos, hpos⟩ : ∃ pos, pos = posR n p (frm, start) route := ⟨_, rfl⟩
    have hposs : ∀ (i : Nat) v, route[i]? = some v → pos (i + 1) = goOn n p (pos i) v := fun i v h => hpos ▸ posR_succ h
    have hpose : ∀ (i : Nat), route[i]? = none → pos (i + 1) = pos i := fun i h => by
      rw [hpos]; unfold posR; rw [List.take_add_one, h]; simp
    have hpos0 : pos 0 = (frm, start) := by rw [hpos]; rfl
    rw [← hpos] at hk3 hk4 hrange htop
    obtain ⟨by1, hby⟩ : ∃ by1, by1 = deadlinesL n p home deadline := ⟨_, rfl⟩
    rw [← hby] at hk3 hk4
    have hd := (dead_spec ho.net ho.party hto hdl).1
    rw [← hby] at hd
    have hv : never = 1073741824 := rfl
    have hsure : ∀ i, (pos i).2 ≤ 2880 → (sureF n p (pos i).1 (pos i).2 home (-1) ≤ deadline ↔ (pos i).2 ≤ getI by1 (pos i).1) := fun i h => by
      rw [sure_eq ho.net ho.party (hrange i).1 ⟨(hrange i).2, h⟩, hby]
      exact comes_iff ho.net ho.party (hrange i).1 hto ⟨(hrange i).2, h⟩ hdl
    have h55 := fun i => f55 n p (pos i).1 (pos i).2 home (-1) ho.net.ok (hrange i).1 hto
    rw [hk0]
    repeat (first | refine walkL_seq ?_ | refine walkL_skip ?_ | refine walkL_block ?_ | (refine walkL_region fun K hK => ?_; simp (maxSteps := 4000000) only [go_sem]; refine hK _ ?_; clear hK K) | refine walkL_nil ?_ | refine walkL_ret ?_ | refine walkL_exit ?_ | refine blockA_here ?_ | refine blockA_other rfl ?_ | refine blockA_ret ?_ | refine blockA_normal ?_ | refine thenA_ret ?_ | refine thenA_exit ?_ | refine thenA_normal ?_)
    refine walkL_loopS (fun (j : Nat) => [(18, .d (.i ((j : Int) - 1))), (3, .d (.i (pos j).1)), (17, .d (.i (pos j).2))]) (fun _ => []) (fun j => j ≤ route.length + 1 ∧ (j : Int) ≤ k + 1) (fun j => route.length + 1 - j) 0 ?_ ⟨Nat.zero_le _, by omega⟩ ?_
    · simp (maxSteps := 4000000) only [go_sem, hpos0]
      refine weak_of [] ?_ ?_ rfl rfl <;> simp [lessT, lessM, lessB, AV.less]
    · intro j ⟨hj, hjk⟩
      have hsj := hsure j
      have h55j := h55 j
      have hrj := hrange j
      have htj := htop j
      have hk3j := hk3 j
      have hk4j := hk4 j
      simp (maxSteps := 4000000) only [go_sem]
      by_cases hA : (j : Int) ≤ k
      · have hA1 : decide ((j : Int) - 1 < (route.length : Int)) = true := by simp; omega
        have hle := hk3j hA
        have hdj := hd (pos j).1 hrj.1.1 hrj.1.2
        have hA2 : decide ((pos j).2 < 1073741824) = true := by simp; omega
        have hA3 : decide (sureF n p (pos j).1 (pos j).2 home (-1) ≤ deadline) = true := by simpa using (hsj (by omega)).2 hle
        have hw : IntKind.i64.wrap ((j : Int) - 1 + 1) = (j : Int) := by rw [wr_small (by omega)]; omega
        repeat (first | refine walkL_seq ?_ | refine walkL_skip ?_ | refine walkL_block ?_ | (refine walkL_region fun K hK => ?_; simp (maxSteps := 4000000) only [go_sem, hrl, hA1, hA2, hA3, hw]; (repeat (first | (refine ⟨_, .lent (hf := h55j) (hd := rfl) (hr := rfl), ?_⟩; simp (maxSteps := 4000000) only [go_sem, hrl, hA1, hA2, hA3, hw]) | (refine ⟨_, .given (hf := h55j) (hd := rfl) (ha := rfl), ?_⟩; simp (maxSteps := 4000000) only [go_sem, hrl, hA1, hA2, hA3, hw]))); refine hK _ ?_; clear hK K) | refine walkL_nil ?_ | refine walkL_ret ?_ | refine walkL_exit ?_ | refine blockA_here ?_ | refine blockA_other rfl ?_ | refine blockA_ret ?_ | refine blockA_normal ?_ | refine thenA_ret ?_ | refine thenA_exit ?_ | refine thenA_normal ?_)
        refine walkL_true rfl ?_
        repeat (first | refine walkL_seq ?_ | refine walkL_skip ?_ | refine walkL_block ?_ | (refine walkL_region fun K hK => ?_; simp (maxSteps := 4000000) only [go_sem, hrl, hw]; refine hK _ ?_; clear hK K) | refine walkL_nil ?_ | refine walkL_ret ?_ | refine walkL_exit ?_ | refine blockA_here ?_ | refine blockA_other rfl ?_ | refine blockA_ret ?_ | refine blockA_normal ?_ | refine thenA_ret ?_ | refine thenA_exit ?_ | refine thenA_normal ?_)
        refine walkL_cond rfl (fun hc => ?_) (fun hc => ?_)
        · have hlt : j < route.length := by simpa using hc
          obtain ⟨v, hv⟩ : ∃ v, route[j]? = some v := ⟨_, List.getElem?_eq_getElem hlt⟩
          have g1 := intRows_at hv
          have hvo := hon v (List.mem_of_getElem? hv)
          obtain ⟨hx, hxm⟩ := pathAt_mem hvo
          obtain ⟨v, rfl⟩ : ∃ i : Nat, v = (i : Int) := ⟨v.toNat, by have := hvo.1; omega⟩
          have hso := span_ok (ho.net.path _ hxm) ho.party
          have hps := hposs j _ hv
          obtain ⟨pl, hpl0⟩ : ∃ pl, pl = (pos (j + 1)).1 := ⟨_, rfl⟩
          obtain ⟨at1, hat⟩ : ∃ at1, at1 = (pos (j + 1)).2 := ⟨_, rfl⟩
          have hst : stepF (pathAt n v) p (pos j).2 true = at1 := by
            rw [step_arrive hrj.2 hso.1 hso.2.1, hat, hps]; rfl
          have hpv : (pathAt n v).to = pl := by rw [hpl0, hps]; rfl
          rw [Int.toNat_natCast] at hx
          have h35 := f35 n p v (pathAt n v) (pos j).2 true hx (by have := hs.opens _ hxm; omega)
          rw [hst, Net.cells] at h35
          obtain ⟨y, hy⟩ : ∃ y, y = pathAt n v := ⟨_, rfl⟩
          rw [← hy] at hx hpv
          repeat (first | refine walkL_seq ?_ | refine walkL_skip ?_ | refine walkL_block ?_ | (refine walkL_region fun K hK => ?_; simp (maxSteps := 4000000) only [go_sem]; refine hK _ ?_; clear hK K) | refine walkL_nil ?_ | refine walkL_ret ?_ | refine walkL_exit ?_ | refine blockA_here ?_ | refine blockA_other rfl ?_ | refine blockA_ret ?_ | refine blockA_normal ?_ | refine thenA_ret ?_ | refine thenA_exit ?_ | refine thenA_normal ?_)
          refine walkL_drawn (by kernel_rfl) (by kernel_rfl) fun K hK => ?_
          simp (maxSteps := 4000000) only [go_sem, g1]
          refine ⟨_, .fn (hf := h35) (hd := rfl) (hr := .inl rfl), ?_⟩
          simp (maxSteps := 4000000) only [go_sem]
          refine ⟨by kernel_rfl, hK _ ?_⟩
          clear hK K
          repeat (first | refine walkL_seq ?_ | refine walkL_skip ?_ | refine walkL_block ?_ | (refine walkL_region fun K hK => ?_; simp (maxSteps := 4000000) only [go_sem]; refine hK _ ?_; clear hK K) | refine walkL_nil ?_ | refine walkL_ret ?_ | refine walkL_exit ?_ | refine blockA_here ?_ | refine blockA_other rfl ?_ | refine blockA_ret ?_ | refine blockA_normal ?_ | refine thenA_ret ?_ | refine thenA_exit ?_ | refine thenA_normal ?_)
          refine walkL_drawn (by kernel_rfl) (by kernel_rfl) fun K hK => ?_
          simp (maxSteps := 4000000) only [go_sem, g1, hx, List.getElem?_map, Path.row]
          refine ⟨by kernel_rfl, hK _ ?_⟩
          clear hK K
          repeat (first | refine walkL_seq ?_ | refine walkL_skip ?_ | refine walkL_block ?_ | (refine walkL_region fun K hK => ?_; simp (maxSteps := 4000000) only [go_sem]; refine hK _ ?_; clear hK K) | refine walkL_nil ?_ | refine walkL_ret ?_ | refine walkL_exit ?_ | refine blockA_here ?_ | refine blockA_other rfl ?_ | refine blockA_ret ?_ | refine blockA_normal ?_ | refine thenA_ret ?_ | refine thenA_exit ?_ | refine thenA_normal ?_)
          refine ⟨rfl, j + 1, ?_, ⟨by omega, by omega⟩, by omega⟩
          rw [← hpl0, ← hat, ← hpv, show ((j + 1 : Nat) : Int) - 1 = (j : Int) by omega]
          refine weak_of [] ?_ ?_ rfl rfl <;> simp [lessT, lessM, lessB, AV.less]
        · have hlt : ¬ j < route.length := by simpa using hc
          repeat (first | refine walkL_seq ?_ | refine walkL_skip ?_ | refine walkL_block ?_ | (refine walkL_region fun K hK => ?_; simp (maxSteps := 4000000) only [go_sem]; refine hK _ ?_; clear hK K) | refine walkL_nil ?_ | refine walkL_ret ?_ | refine walkL_exit ?_ | refine blockA_here ?_ | refine blockA_other rfl ?_ | refine blockA_ret ?_ | refine blockA_normal ?_ | refine thenA_ret ?_ | refine thenA_exit ?_ | refine thenA_normal ?_)
          refine ⟨rfl, j + 1, ?_, ⟨by omega, by omega⟩, by omega⟩
          rw [hpose j (by simp; omega), show ((j + 1 : Nat) : Int) - 1 = (j : Int) by omega]
          refine weak_of [] ?_ ?_ rfl rfl <;> simp [lessT, lessM, lessB, AV.less]
      · have hjk1 : (j : Int) - 1 = k := by omega
        by_cases hB : (j : Int) - 1 < (route.length : Int)
        · have hA1 : decide ((j : Int) - 1 < (route.length : Int)) = true := by simpa using hB
          have hgt := hk4j (by omega) (by omega)
          rcases htj with htj | htj
          · have hA2 : decide ((pos j).2 < 1073741824) = false := by simp; omega
            repeat (first | refine walkL_seq ?_ | refine walkL_skip ?_ | refine walkL_block ?_ | (refine walkL_region fun K hK => ?_; simp (maxSteps := 4000000) only [go_sem, hrl, hA1, hA2]; refine hK _ ?_; clear hK K) | refine walkL_nil ?_ | refine walkL_ret ?_ | refine walkL_exit ?_ | refine blockA_here ?_ | refine blockA_other rfl ?_ | refine blockA_ret ?_ | refine blockA_normal ?_ | refine thenA_ret ?_ | refine thenA_exit ?_ | refine thenA_normal ?_)
            refine walkL_false rfl ?_
            repeat (first | refine walkL_seq ?_ | refine walkL_skip ?_ | refine walkL_block ?_ | (refine walkL_region fun K hK => ?_; simp (maxSteps := 4000000) only [go_sem]; refine hK _ ?_; clear hK K) | refine walkL_nil ?_ | refine walkL_ret ?_ | refine walkL_exit ?_ | refine blockA_here ?_ | refine blockA_other rfl ?_ | refine blockA_ret ?_ | refine blockA_normal ?_ | refine thenA_ret ?_ | refine thenA_exit ?_ | refine thenA_normal ?_)
            simp (maxSteps := 4000000) only [go_sem, hjk1]
          · have hA2 : decide ((pos j).2 < 1073741824) = true := by simp; omega
            have hA3 : decide (sureF n p (pos j).1 (pos j).2 home (-1) ≤ deadline) = false := by
              simp only [decide_eq_false_iff_not]
              intro h
              have := (hsj htj).1 h
              omega
            repeat (first | refine walkL_seq ?_ | refine walkL_skip ?_ | refine walkL_block ?_ | (refine walkL_region fun K hK => ?_; simp (maxSteps := 4000000) only [go_sem, hrl, hA1, hA2, hA3]; (repeat (first | (refine ⟨_, .lent (hf := h55j) (hd := rfl) (hr := rfl), ?_⟩; simp (maxSteps := 4000000) only [go_sem, hrl, hA1, hA2, hA3]) | (refine ⟨_, .given (hf := h55j) (hd := rfl) (ha := rfl), ?_⟩; simp (maxSteps := 4000000) only [go_sem, hrl, hA1, hA2, hA3]))); refine hK _ ?_; clear hK K) | refine walkL_nil ?_ | refine walkL_ret ?_ | refine walkL_exit ?_ | refine blockA_here ?_ | refine blockA_other rfl ?_ | refine blockA_ret ?_ | refine blockA_normal ?_ | refine thenA_ret ?_ | refine thenA_exit ?_ | refine thenA_normal ?_)
            refine walkL_false rfl ?_
            repeat (first | refine walkL_seq ?_ | refine walkL_skip ?_ | refine walkL_block ?_ | (refine walkL_region fun K hK => ?_; simp (maxSteps := 4000000) only [go_sem]; refine hK _ ?_; clear hK K) | refine walkL_nil ?_ | refine walkL_ret ?_ | refine walkL_exit ?_ | refine blockA_here ?_ | refine blockA_other rfl ?_ | refine blockA_ret ?_ | refine blockA_normal ?_ | refine thenA_ret ?_ | refine thenA_exit ?_ | refine thenA_normal ?_)
            simp (maxSteps := 4000000) only [go_sem, hjk1]
        · have hA1 : decide ((j : Int) - 1 < (route.length : Int)) = false := by simpa using hB
          repeat (first | refine walkL_seq ?_ | refine walkL_skip ?_ | refine walkL_block ?_ | (refine walkL_region fun K hK => ?_; simp (maxSteps := 4000000) only [go_sem, hrl, hA1]; refine hK _ ?_; clear hK K) | refine walkL_nil ?_ | refine walkL_ret ?_ | refine walkL_exit ?_ | refine blockA_here ?_ | refine blockA_other rfl ?_ | refine blockA_ret ?_ | refine blockA_normal ?_ | refine thenA_ret ?_ | refine thenA_exit ?_ | refine thenA_normal ?_)
          refine walkL_false rfl ?_
          repeat (first | refine walkL_seq ?_ | refine walkL_skip ?_ | refine walkL_block ?_ | (refine walkL_region fun K hK => ?_; simp (maxSteps := 4000000) only [go_sem]; refine hK _ ?_; clear hK K) | refine walkL_nil ?_ | refine walkL_ret ?_ | refine walkL_exit ?_ | refine blockA_here ?_ | refine blockA_other rfl ?_ | refine blockA_ret ?_ | refine blockA_normal ?_ | refine thenA_ret ?_ | refine thenA_exit ?_ | refine thenA_normal ?_)
          simp (maxSteps := 4000000) only [go_sem, hjk1]
end Go.Ab
namespace Go.Ab
open Go.RowKit Go.Proofs
set_option maxHeartbeats 4000000
set_option maxRecDepth 20000
attribute [local irreducible] WalkL Walk

theorem vitalL_len (n : Net) (p : Party) (frm start to deadline : Int) : (vitalL n p frm start to deadline).1.length ≤ n.paths.length := by
  unfold vitalL
  split
  · split
    · simp
    · exact selL_len _ _
  · simp

theorem withinL_len (n : Net) (p : Party) (frm start deadline : Int) : (withinL n p frm start deadline).1.length < 2 ^ 30 ∧ (withinL n p frm start deadline).2.1.length < 2 ^ 30 := by
  unfold withinL
  split
  · rename_i h
    have hpl := (open_iff.1 h).net.places
    have h1 := untilL_len deadline (arrivalsL n p spanHi frm start (-1))
    have h2 := untilL_len deadline (arrivalsL n p spanLo frm start (-1))
    rw [arrivals_len] at h1 h2
    constructor <;> dsimp only <;> omega
  · simp

theorem f17same (l : List Int) (h : l.length < 2 ^ 30) : Fn Try.prog 17 [.sl (intRows l), .sl (intRows l)] (.bool true) := by
  have := f17 l l h
  simpa using this

theorem f11 (n : Net) (p : Party) (x : Trip) (hs : n.Small) (hr : x.route.length < 2 ^ 30) : Fn Try.prog 11 [.agg n.cells, .agg p.cells, .agg x.row] (.bool true) := by
  have h12 := f12 n hs
  have h14 := f14 n hs
  rw [Net.cells] at h14
  have hrl := intRows_len x.route
  have hrh := intRows_head x.route
  have h31 := f31 n p x.frm x.start x.to x.deadline hs
  have h36 := f36 n p x.frm x.start x.to x.deadline hs
  have h37 := f37 n p x.frm x.start x.deadline hs
  have h38 := f38 n p x.frm x.start x.deadline hs
  have h34 := f34 n p x.route x.frm x.start x.to x.deadline hs hr
  have h39 := f39 n p x.route x.frm x.start x.to x.deadline hs hr
  rw [vital_eq] at h36
  rw [within_eq] at h38
  have hvl := vitalL_len n p x.frm x.start x.to x.deadline
  have hwl := withinL_len n p x.frm x.start x.deadline
  obtain ⟨v, hv⟩ : ∃ v, v = vitalL n p x.frm x.start x.to x.deadline := ⟨_, rfl⟩
  obtain ⟨w, hw⟩ : ∃ w, w = withinL n p x.frm x.start x.deadline := ⟨_, rfl⟩
  obtain ⟨k, hk⟩ : ∃ k, k = turnL n p x.route x.frm x.start x.to x.deadline := ⟨_, rfl⟩
  rw [← hv] at h31 h36 hvl
  rw [← hw] at h37 h38 hwl
  rw [← hk] at h34 h39
  have hps := hs.paths
  have e1 := f17same v.1 (by omega)
  have e2 := f17same w.1 hwl.1
  have e3 := f17same w.2.1 hwl.2
  have n1 : (v.2 != v.2) = false := by simp
  have n2 : (w.2.2 != w.2.2) = false := by simp
  have n3 : (k.1 == k.1) = true := by simp
  have n4 : (k.2 == k.2) = true := by simp
  have hal : x.route.length ≤ 549755813888 := by omega
  refine fn_walk 152 Try.call11 Try.func11 rfl (by decide) fun J => ?_
  simp (maxSteps := 4000000) only [go_sem, St.start, Try.ntmps11, Try.results11, Net.cells, Party.cells, Trip.row]
  by_cases hfar : farB n = true
  · repeat (first | refine walkL_seq ?_ | refine walkL_skip ?_ | refine walkL_block ?_ | (refine walkL_region fun K hK => ?_; simp (maxSteps := 4000000) only [go_sem, hfar]; (repeat (first | (refine ⟨_, .lent (hf := h12) (hd := rfl) (hr := rfl), ?_⟩; simp (maxSteps := 4000000) only [go_sem, hfar]) | (refine ⟨_, .given (hf := h12) (hd := rfl) (ha := rfl), ?_⟩; simp (maxSteps := 4000000) only [go_sem, hfar]))); refine hK _ ?_; clear hK K) | refine walkL_nil ?_ | refine walkL_ret ?_ | refine walkL_exit ?_ | refine blockA_here ?_ | refine blockA_other rfl ?_ | refine blockA_ret ?_ | refine blockA_normal ?_ | refine thenA_ret ?_ | refine thenA_exit ?_ | refine thenA_normal ?_)
    refine walkL_true rfl ?_
    repeat (first | refine walkL_seq ?_ | refine walkL_skip ?_ | refine walkL_block ?_ | (refine walkL_region fun K hK => ?_; simp (maxSteps := 4000000) only [go_sem]; (repeat (first | (refine ⟨_, .lent (hf := f13) (hd := rfl) (hr := rfl), ?_⟩; simp (maxSteps := 4000000) only [go_sem]) | (refine ⟨_, .given (hf := f13) (hd := rfl) (ha := rfl), ?_⟩; simp (maxSteps := 4000000) only [go_sem]))); refine hK _ ?_; clear hK K) | refine walkL_nil ?_ | refine walkL_ret ?_ | refine walkL_exit ?_ | refine blockA_here ?_ | refine blockA_other rfl ?_ | refine blockA_ret ?_ | refine blockA_normal ?_ | refine thenA_ret ?_ | refine thenA_exit ?_ | refine thenA_normal ?_)
    simp (maxSteps := 4000000) only [go_sem]
  · have hfar' : farB n = false := by simpa using hfar
    by_cases hl : (x.route.length : Int) > 60
    · have hl' : decide ((x.route.length : Int) > 60) = true := by simpa using hl
      repeat (first | refine walkL_seq ?_ | refine walkL_skip ?_ | refine walkL_block ?_ | (refine walkL_region fun K hK => ?_; simp (maxSteps := 4000000) only [go_sem, hfar', hrl, hl']; (repeat (first | (refine ⟨_, .lent (hf := h12) (hd := rfl) (hr := rfl), ?_⟩; simp (maxSteps := 4000000) only [go_sem, hfar', hrl, hl']) | (refine ⟨_, .given (hf := h12) (hd := rfl) (ha := rfl), ?_⟩; simp (maxSteps := 4000000) only [go_sem, hfar', hrl, hl']))); refine hK _ ?_; clear hK K) | refine walkL_nil ?_ | refine walkL_ret ?_ | refine walkL_exit ?_ | refine blockA_here ?_ | refine blockA_other rfl ?_ | refine blockA_ret ?_ | refine blockA_normal ?_ | refine thenA_ret ?_ | refine thenA_exit ?_ | refine thenA_normal ?_)
      refine walkL_true rfl ?_
      repeat (first | refine walkL_seq ?_ | refine walkL_skip ?_ | refine walkL_block ?_ | (refine walkL_region fun K hK => ?_; simp (maxSteps := 4000000) only [go_sem]; (repeat (first | (refine ⟨_, .lent (hf := f13) (hd := rfl) (hr := rfl), ?_⟩; simp (maxSteps := 4000000) only [go_sem]) | (refine ⟨_, .given (hf := f13) (hd := rfl) (ha := rfl), ?_⟩; simp (maxSteps := 4000000) only [go_sem]))); refine hK _ ?_; clear hK K) | refine walkL_nil ?_ | refine walkL_ret ?_ | refine walkL_exit ?_ | refine blockA_here ?_ | refine blockA_other rfl ?_ | refine blockA_ret ?_ | refine blockA_normal ?_ | refine thenA_ret ?_ | refine thenA_exit ?_ | refine thenA_normal ?_)
      simp (maxSteps := 4000000) only [go_sem]
    · have hl' : decide ((x.route.length : Int) > 60) = false := by simpa using hl
      repeat (first | refine walkL_seq ?_ | refine walkL_skip ?_ | refine walkL_block ?_ | (refine walkL_region fun K hK => ?_; simp (maxSteps := 4000000) only [go_sem, hfar', hrl, hl']; (repeat (first | (refine ⟨_, .lent (hf := h12) (hd := rfl) (hr := rfl), ?_⟩; simp (maxSteps := 4000000) only [go_sem, hfar', hrl, hl']) | (refine ⟨_, .given (hf := h12) (hd := rfl) (ha := rfl), ?_⟩; simp (maxSteps := 4000000) only [go_sem, hfar', hrl, hl']))); refine hK _ ?_; clear hK K) | refine walkL_nil ?_ | refine walkL_ret ?_ | refine walkL_exit ?_ | refine blockA_here ?_ | refine blockA_other rfl ?_ | refine blockA_ret ?_ | refine blockA_normal ?_ | refine thenA_ret ?_ | refine thenA_exit ?_ | refine thenA_normal ?_)
      refine walkL_false rfl ?_
      repeat (first | refine walkL_seq ?_ | refine walkL_skip ?_ | refine walkL_block ?_ | (refine walkL_region fun K hK => ?_; simp (maxSteps := 4000000) only [go_sem, n1]; (repeat (first | (refine ⟨_, .lent (hf := h14) (hd := rfl) (hr := rfl), ?_⟩; simp (maxSteps := 4000000) only [go_sem, n1]) | (refine ⟨_, .lent (hf := h31) (hd := rfl) (hr := rfl), ?_⟩; simp (maxSteps := 4000000) only [go_sem, n1]) | (refine ⟨_, .lent (hf := h36) (hd := rfl) (hr := rfl), ?_⟩; simp (maxSteps := 4000000) only [go_sem, n1]) | (refine ⟨_, .lent (hf := e1) (hd := rfl) (hr := rfl), ?_⟩; simp (maxSteps := 4000000) only [go_sem, n1]) | (refine ⟨_, .given (hf := h14) (hd := rfl) (ha := rfl), ?_⟩; simp (maxSteps := 4000000) only [go_sem, n1]) | (refine ⟨_, .given (hf := h31) (hd := rfl) (ha := rfl), ?_⟩; simp (maxSteps := 4000000) only [go_sem, n1]) | (refine ⟨_, .given (hf := h36) (hd := rfl) (ha := rfl), ?_⟩; simp (maxSteps := 4000000) only [go_sem, n1]) | (refine ⟨_, .given (hf := e1) (hd := rfl) (ha := rfl), ?_⟩; simp (maxSteps := 4000000) only [go_sem, n1]))); refine hK _ ?_; clear hK K) | refine walkL_nil ?_ | refine walkL_ret ?_ | refine walkL_exit ?_ | refine blockA_here ?_ | refine blockA_other rfl ?_ | refine blockA_ret ?_ | refine blockA_normal ?_ | refine thenA_ret ?_ | refine thenA_exit ?_ | refine thenA_normal ?_)
      refine walkL_false rfl ?_
      repeat (first | refine walkL_seq ?_ | refine walkL_skip ?_ | refine walkL_block ?_ | (refine walkL_region fun K hK => ?_; simp (maxSteps := 4000000) only [go_sem, n2]; (repeat (first | (refine ⟨_, .lent (hf := h37) (hd := rfl) (hr := rfl), ?_⟩; simp (maxSteps := 4000000) only [go_sem, n2]) | (refine ⟨_, .lent (hf := h38) (hd := rfl) (hr := rfl), ?_⟩; simp (maxSteps := 4000000) only [go_sem, n2]) | (refine ⟨_, .lent (hf := e2) (hd := rfl) (hr := rfl), ?_⟩; simp (maxSteps := 4000000) only [go_sem, n2]) | (refine ⟨_, .lent (hf := e3) (hd := rfl) (hr := rfl), ?_⟩; simp (maxSteps := 4000000) only [go_sem, n2]) | (refine ⟨_, .given (hf := h37) (hd := rfl) (ha := rfl), ?_⟩; simp (maxSteps := 4000000) only [go_sem, n2]) | (refine ⟨_, .given (hf := h38) (hd := rfl) (ha := rfl), ?_⟩; simp (maxSteps := 4000000) only [go_sem, n2]) | (refine ⟨_, .given (hf := e2) (hd := rfl) (ha := rfl), ?_⟩; simp (maxSteps := 4000000) only [go_sem, n2]) | (refine ⟨_, .given (hf := e3) (hd := rfl) (ha := rfl), ?_⟩; simp (maxSteps := 4000000) only [go_sem, n2]))); refine hK _ ?_; clear hK K) | refine walkL_nil ?_ | refine walkL_ret ?_ | refine walkL_exit ?_ | refine blockA_here ?_ | refine blockA_other rfl ?_ | refine blockA_ret ?_ | refine blockA_normal ?_ | refine thenA_ret ?_ | refine thenA_exit ?_ | refine thenA_normal ?_)
      refine walkL_false rfl ?_
      repeat (first | refine walkL_seq ?_ | refine walkL_skip ?_ | refine walkL_block ?_ | (refine walkL_region fun K hK => ?_; simp (maxSteps := 4000000) only [go_sem]; refine hK _ ?_; clear hK K) | refine walkL_nil ?_ | refine walkL_ret ?_ | refine walkL_exit ?_ | refine blockA_here ?_ | refine blockA_other rfl ?_ | refine blockA_ret ?_ | refine blockA_normal ?_ | refine thenA_ret ?_ | refine thenA_exit ?_ | refine thenA_normal ?_)
      refine walkL_drawnA (by kernel_rfl) (by kernel_rfl) fun K hK => ?_
      simp (maxSteps := 4000000) only [go_sem, hrl, hrh, hal]
      refine ⟨_, .fn (hf := h34) (hd := rfl) (hr := .inl rfl), ?_⟩
      simp (maxSteps := 4000000) only [go_sem]
      refine ⟨by kernel_rfl, by kernel_rfl, hK _ ?_⟩
      clear hK K
      repeat (first | refine walkL_seq ?_ | refine walkL_skip ?_ | refine walkL_block ?_ | (refine walkL_region fun K hK => ?_; simp (maxSteps := 4000000) only [go_sem, n3, n4]; (repeat (first | (refine ⟨_, .lent (hf := h39) (hd := rfl) (hr := rfl), ?_⟩; simp (maxSteps := 4000000) only [go_sem, n3, n4]) | (refine ⟨_, .lent (hf := f13) (hd := rfl) (hr := rfl), ?_⟩; simp (maxSteps := 4000000) only [go_sem, n3, n4]) | (refine ⟨_, .given (hf := h39) (hd := rfl) (ha := rfl), ?_⟩; simp (maxSteps := 4000000) only [go_sem, n3, n4]) | (refine ⟨_, .given (hf := f13) (hd := rfl) (ha := rfl), ?_⟩; simp (maxSteps := 4000000) only [go_sem, n3, n4]))); refine hK _ ?_; clear hK K) | refine walkL_nil ?_ | refine walkL_ret ?_ | refine walkL_exit ?_ | refine blockA_here ?_ | refine blockA_other rfl ?_ | refine blockA_ret ?_ | refine blockA_normal ?_ | refine thenA_ret ?_ | refine thenA_exit ?_ | refine thenA_normal ?_)
      simp (maxSteps := 4000000) only [go_sem]
end Go.Ab
namespace Go.Ab
open Go.RowKit Go.Proofs
set_option maxHeartbeats 4000000
set_option maxRecDepth 20000
attribute [local irreducible] WalkL Walk

theorem arriveL_len (n : Net) (p : Party) (frm start : Int) : (arriveL n p frm start).1.length < 2 ^ 30 ∧ (arriveL n p frm start).2.1.length < 2 ^ 30 := by
  unfold arriveL
  split
  · rename_i h
    have hpl := (open_iff.1 h).net.places
    simp only [List.length_map, arrivals_len]
    constructor <;> omega
  · simp

theorem f8 (n : Net) (p : Party) (x : Trip) (hs : n.Small) : Fn Try.prog 8 [.agg n.cells, .agg p.cells, .agg x.row] (.bool true) := by
  have h12 := f12 n hs
  have h14 := f14 n hs
  rw [Net.cells] at h14
  have h26 := f26 n hs
  have h27 := f27 n hs
  have h28 := f28 n p x.path hs
  have h29 := f29 n p x.path hs
  have h21 := f21 n p x.frm x.start hs
  have h30 := f30 n p x.frm x.start hs
  change Fn _ _ _ (.tup [.sl (intRows (refArriveL n p x.frm x.start).1), .sl (intRows (refArriveL n p x.frm x.start).2.1), .i (refArriveL n p x.frm x.start).2.2]) at h30
  rw [arriveL_eq] at h30
  have hwl := arriveL_len n p x.frm x.start
  obtain ⟨v, hv⟩ : ∃ v, v = walkF n p x.path := ⟨_, rfl⟩
  obtain ⟨w, hw⟩ : ∃ w, w = arriveL n p x.frm x.start := ⟨_, rfl⟩
  obtain ⟨c, hc⟩ : ∃ c, c = checkF n := ⟨_, rfl⟩
  rw [← hv, Span.row] at h28 h29
  rw [← hw] at h30 hwl
  change Fn _ _ _ (.tup [.sl (intRows (arriveL n p x.frm x.start).1), .sl (intRows (arriveL n p x.frm x.start).2.1), .i (arriveL n p x.frm x.start).2.2]) at h21
  rw [← hw] at h21
  rw [← hc] at h26 h27
  have e2 := f17same w.1 hwl.1
  have e3 := f17same w.2.1 hwl.2
  have n0 : (c != c) = false := by simp
  have n1 : (v.2 != v.2) = false := by simp
  have n2 : (w.2.2 == w.2.2) = true := by simp
  have n3 : (v.1.lo == v.1.lo) = true := by simp
  have n4 : (v.1.hi == v.1.hi) = true := by simp
  refine fn_walk 88 Try.call8 Try.func8 rfl (by decide) fun J => ?_
  simp (maxSteps := 4000000) only [go_sem, St.start, Try.ntmps8, Try.results8, Net.cells, Party.cells, Trip.row]
  by_cases hfar : farB n = true
  · repeat (first | refine walkL_seq ?_ | refine walkL_skip ?_ | refine walkL_block ?_ | (refine walkL_region fun K hK => ?_; simp (maxSteps := 4000000) only [go_sem, hfar]; (repeat (first | (refine ⟨_, .lent (hf := h12) (hd := rfl) (hr := rfl), ?_⟩; simp (maxSteps := 4000000) only [go_sem, hfar]) | (refine ⟨_, .given (hf := h12) (hd := rfl) (ha := rfl), ?_⟩; simp (maxSteps := 4000000) only [go_sem, hfar]))); refine hK _ ?_; clear hK K) | refine walkL_nil ?_ | refine walkL_ret ?_ | refine walkL_exit ?_ | refine blockA_here ?_ | refine blockA_other rfl ?_ | refine blockA_ret ?_ | refine blockA_normal ?_ | refine thenA_ret ?_ | refine thenA_exit ?_ | refine thenA_normal ?_)
    refine walkL_true rfl ?_
    repeat (first | refine walkL_seq ?_ | refine walkL_skip ?_ | refine walkL_block ?_ | (refine walkL_region fun K hK => ?_; simp (maxSteps := 4000000) only [go_sem]; (repeat (first | (refine ⟨_, .lent (hf := f13) (hd := rfl) (hr := rfl), ?_⟩; simp (maxSteps := 4000000) only [go_sem]) | (refine ⟨_, .given (hf := f13) (hd := rfl) (ha := rfl), ?_⟩; simp (maxSteps := 4000000) only [go_sem]))); refine hK _ ?_; clear hK K) | refine walkL_nil ?_ | refine walkL_ret ?_ | refine walkL_exit ?_ | refine blockA_here ?_ | refine blockA_other rfl ?_ | refine blockA_ret ?_ | refine blockA_normal ?_ | refine thenA_ret ?_ | refine thenA_exit ?_ | refine thenA_normal ?_)
    simp (maxSteps := 4000000) only [go_sem]
  · have hfar' : farB n = false := by simpa using hfar
    repeat (first | refine walkL_seq ?_ | refine walkL_skip ?_ | refine walkL_block ?_ | (refine walkL_region fun K hK => ?_; simp (maxSteps := 4000000) only [go_sem, hfar']; (repeat (first | (refine ⟨_, .lent (hf := h12) (hd := rfl) (hr := rfl), ?_⟩; simp (maxSteps := 4000000) only [go_sem, hfar']) | (refine ⟨_, .given (hf := h12) (hd := rfl) (ha := rfl), ?_⟩; simp (maxSteps := 4000000) only [go_sem, hfar']))); refine hK _ ?_; clear hK K) | refine walkL_nil ?_ | refine walkL_ret ?_ | refine walkL_exit ?_ | refine blockA_here ?_ | refine blockA_other rfl ?_ | refine blockA_ret ?_ | refine blockA_normal ?_ | refine thenA_ret ?_ | refine thenA_exit ?_ | refine thenA_normal ?_)
    refine walkL_false rfl ?_
    repeat (first | refine walkL_seq ?_ | refine walkL_skip ?_ | refine walkL_block ?_ | (refine walkL_region fun K hK => ?_; simp (maxSteps := 4000000) only [go_sem]; (repeat (first | (refine ⟨_, .lent (hf := h14) (hd := rfl) (hr := rfl), ?_⟩; simp (maxSteps := 4000000) only [go_sem]) | (refine ⟨_, .given (hf := h14) (hd := rfl) (ha := rfl), ?_⟩; simp (maxSteps := 4000000) only [go_sem]))); refine hK _ ?_; clear hK K) | refine walkL_nil ?_ | refine walkL_ret ?_ | refine walkL_exit ?_ | refine blockA_here ?_ | refine blockA_other rfl ?_ | refine blockA_ret ?_ | refine blockA_normal ?_ | refine thenA_ret ?_ | refine thenA_exit ?_ | refine thenA_normal ?_)
    refine walkL_drawn (by kernel_rfl) (by kernel_rfl) fun K hK => ?_
    simp (maxSteps := 4000000) only [go_sem]
    refine ⟨_, .fn (hf := h26) (hd := rfl) (hr := .inl rfl), ?_⟩
    simp (maxSteps := 4000000) only [go_sem]
    refine ⟨_, .fn (hf := h27) (hd := rfl) (hr := .inl rfl), ?_⟩
    simp (maxSteps := 4000000) only [go_sem, n0]
    refine ⟨by kernel_rfl, hK _ ?_⟩
    clear hK K
    repeat (first | refine walkL_seq ?_ | refine walkL_skip ?_ | refine walkL_block ?_ | (refine walkL_region fun K hK => ?_; simp (maxSteps := 4000000) only [go_sem]; refine hK _ ?_; clear hK K) | refine walkL_nil ?_ | refine walkL_ret ?_ | refine walkL_exit ?_ | refine blockA_here ?_ | refine blockA_other rfl ?_ | refine blockA_ret ?_ | refine blockA_normal ?_ | refine thenA_ret ?_ | refine thenA_exit ?_ | refine thenA_normal ?_)
    refine walkL_false rfl ?_
    repeat (first | refine walkL_seq ?_ | refine walkL_skip ?_ | refine walkL_block ?_ | (refine walkL_region fun K hK => ?_; simp (maxSteps := 4000000) only [go_sem, n1, n3, n4]; (repeat (first | (refine ⟨_, .lent (hf := h28) (hd := rfl) (hr := rfl), ?_⟩; simp (maxSteps := 4000000) only [go_sem, n1, n3, n4]) | (refine ⟨_, .lent (hf := h29) (hd := rfl) (hr := rfl), ?_⟩; simp (maxSteps := 4000000) only [go_sem, n1, n3, n4]) | (refine ⟨_, .given (hf := h28) (hd := rfl) (ha := rfl), ?_⟩; simp (maxSteps := 4000000) only [go_sem, n1, n3, n4]) | (refine ⟨_, .given (hf := h29) (hd := rfl) (ha := rfl), ?_⟩; simp (maxSteps := 4000000) only [go_sem, n1, n3, n4]))); refine hK _ ?_; clear hK K) | refine walkL_nil ?_ | refine walkL_ret ?_ | refine walkL_exit ?_ | refine blockA_here ?_ | refine blockA_other rfl ?_ | refine blockA_ret ?_ | refine blockA_normal ?_ | refine thenA_ret ?_ | refine thenA_exit ?_ | refine thenA_normal ?_)
    refine walkL_false rfl ?_
    repeat (first | refine walkL_seq ?_ | refine walkL_skip ?_ | refine walkL_block ?_ | (refine walkL_region fun K hK => ?_; simp (maxSteps := 4000000) only [go_sem, n2]; (repeat (first | (refine ⟨_, .lent (hf := h21) (hd := rfl) (hr := rfl), ?_⟩; simp (maxSteps := 4000000) only [go_sem, n2]) | (refine ⟨_, .lent (hf := h30) (hd := rfl) (hr := rfl), ?_⟩; simp (maxSteps := 4000000) only [go_sem, n2]) | (refine ⟨_, .lent (hf := e2) (hd := rfl) (hr := rfl), ?_⟩; simp (maxSteps := 4000000) only [go_sem, n2]) | (refine ⟨_, .lent (hf := e3) (hd := rfl) (hr := rfl), ?_⟩; simp (maxSteps := 4000000) only [go_sem, n2]) | (refine ⟨_, .lent (hf := f13) (hd := rfl) (hr := rfl), ?_⟩; simp (maxSteps := 4000000) only [go_sem, n2]) | (refine ⟨_, .given (hf := h21) (hd := rfl) (ha := rfl), ?_⟩; simp (maxSteps := 4000000) only [go_sem, n2]) | (refine ⟨_, .given (hf := h30) (hd := rfl) (ha := rfl), ?_⟩; simp (maxSteps := 4000000) only [go_sem, n2]) | (refine ⟨_, .given (hf := e2) (hd := rfl) (ha := rfl), ?_⟩; simp (maxSteps := 4000000) only [go_sem, n2]) | (refine ⟨_, .given (hf := e3) (hd := rfl) (ha := rfl), ?_⟩; simp (maxSteps := 4000000) only [go_sem, n2]) | (refine ⟨_, .given (hf := f13) (hd := rfl) (ha := rfl), ?_⟩; simp (maxSteps := 4000000) only [go_sem, n2]))); refine hK _ ?_; clear hK K) | refine walkL_nil ?_ | refine walkL_ret ?_ | refine walkL_exit ?_ | refine blockA_here ?_ | refine blockA_other rfl ?_ | refine blockA_ret ?_ | refine blockA_normal ?_ | refine thenA_ret ?_ | refine thenA_exit ?_ | refine thenA_normal ?_)
    simp (maxSteps := 4000000) only [go_sem]
end Go.Ab
/- Plain laws of layer 1: the route that is returned. -/
namespace Go.Ab
open Go.RowKit Go.Proofs
set_option maxHeartbeats 1000000

/-! ### Routes, path by path -/

/-- From a place, at a minute, over these paths, to a place, by then. -/
inductive Trail (n : Net) (p : Party) : Int → Int → List Int → Int → Int → Prop where
  | nil (y t : Int) : Trail n p y t [] y t
  | cons {y t z u : Int} {r : List Int} (w : Nat × Path) (hm : w ∈ waysL n p (-1)) (hf : w.2.frm = y) (hle : arriveF w.2.opens t (spanW w.2 p).hi ≤ 2880)
      (h : Trail n p w.2.to (arriveF w.2.opens t (spanW w.2 p).hi) r z u) : Trail n p y t ((w.1 : Int) :: r) z u

/-- With so many paths. -/
inductive ReachN (n : Net) (p : Party) (x s : Int) : Nat → Int → Int → Prop where
  | refl : ReachN n p x s 0 x s
  | step {k : Nat} {y t : Int} (w : Nat × Path) : ReachN n p x s k y t → w ∈ waysL n p (-1) → w.2.frm = y → arriveF w.2.opens t (spanW w.2 p).hi ≤ 2880 → ReachN n p x s (k + 1) w.2.to (arriveF w.2.opens t (spanW w.2 p).hi)

theorem ReachN.reach {n : Net} {p : Party} {x s : Int} {k : Nat} {y t : Int} (h : ReachN n p x s k y t) : Reach (waysL n p (-1)) (durHi p) x s y t := by
  induction h with
  | refl => exact .refl
  | step w _ hm hf hle ih => exact .step w ih hm hf hle

theorem Trail.reach {n : Net} {p : Party} {y t z u : Int} {r : List Int} (h : Trail n p y t r z u) : Reach (waysL n p (-1)) (durHi p) y t z u := by
  induction h with
  | nil => exact .refl
  | cons w hm hf hle _ ih =>
    subst hf
    exact Reach.trans (Reach.one (dur := durHi p) hm hle) ih

/-! ### With exactly so many paths -/

section
variable {n : Net} {p : Party} {frm start : Int}

def NowInv (n : Net) (p : Party) (frm start : Int) (k : Nat) (l : List Int) : Prop :=
  l.length = n.places.toNat ∧ ∀ y, 0 ≤ y → y < n.places → getI l y = never ∨ (0 ≤ getI l y ∧ getI l y ≤ 2880 ∧ ReachN n p frm start k y (getI l y))

theorem foldS_step (hn : n.Good) (hp : p.Good) {k : Nat} {now : List Int} (hN : NowInv n p frm start k now) : ∀ (ws : List (Nat × Path)) (l : List Int), (∀ w ∈ ws, w ∈ waysL n p (-1)) → NowInv n p frm start (k + 1) l →
    NowInv n p frm start (k + 1) (ws.foldl (relaxS p now) l) ∧ (∀ y, 0 ≤ y → y < n.places → getI (ws.foldl (relaxS p now) l) y ≤ getI l y) ∧
    ∀ w ∈ ws, getI now w.2.frm ≠ never → getI (ws.foldl (relaxS p now) l) w.2.to ≤ arriveF w.2.opens (getI now w.2.frm) (spanW w.2 p).hi := by
  intro ws
  induction ws with
  | nil => exact fun l _ h => ⟨h, fun y _ _ => Int.le_refl _, fun w hw => by cases hw⟩
  | cons v ws ih =>
    intro l hs h
    rw [List.foldl_cons]
    have hv : never = 1073741824 := rfl
    have hok := (ways_ok hn hp (-1)).1
    obtain ⟨v1, v2, v3⟩ := hok v (hs v (by simp))
    have v3 : okTime (spanW v.2 p).hi := v3
    have hsz : v.2.to.toNat < l.length := by have := h.1; omega
    have one : NowInv n p frm start (k + 1) (relaxS p now l v) ∧ (∀ y, 0 ≤ y → y < n.places → getI (relaxS p now l v) y ≤ getI l y) ∧ (getI now v.2.frm ≠ never → getI (relaxS p now l v) v.2.to ≤ arriveF v.2.opens (getI now v.2.frm) (spanW v.2 p).hi) := by
      unfold relaxS
      split
      · rename_i e; exact ⟨h, fun y _ _ => Int.le_refl _, fun hc => absurd e hc⟩
      · rename_i hne
        rcases hN.2 v.2.frm v1.1 v1.2 with h4 | ⟨h4, h5, h6⟩
        · exact absurd h4 hne
        refine ⟨⟨by simpa using h.1, fun y hy hyn => ?_⟩, fun y hy hyn => ?_, fun _ => ?_⟩
        · rw [getI_set _ _ _ _ v2.1 hsz hy]
          split
          · rename_i e; subst e
            by_cases hlt : getI l v.2.to ≤ arriveF v.2.opens (getI now v.2.frm) (spanW v.2 p).hi
            · rw [Int.min_eq_left hlt]; exact h.2 _ v2.1 v2.2
            · rw [Int.min_eq_right (by omega)]
              rcases arrive_range (opens := v.2.opens) h4 v3 with ha | ⟨ha, ha'⟩
              · exact .inl ha
              · unfold okTime at v3
                exact .inr ⟨by omega, ha', .step v h6 (hs v (by simp)) rfl ha'⟩
          · exact h.2 y hy hyn
        · rw [getI_set _ _ _ _ v2.1 hsz hy]
          split
          · rename_i e; subst e; omega
          · exact Int.le_refl _
        · rw [getI_set _ _ _ _ v2.1 hsz v2.1, if_pos rfl]; omega
    obtain ⟨o1, o2, o3⟩ := one
    obtain ⟨i1, i2, i3⟩ := ih _ (fun w hw => hs w (by simp [hw])) o1
    refine ⟨i1, fun y hy hyn => Int.le_trans (i2 y hy hyn) (o2 y hy hyn), fun w hw hne => ?_⟩
    rcases List.mem_cons.1 hw with rfl | hw
    · exact Int.le_trans (i2 _ v2.1 v2.2) (o3 hne)
    · exact i3 w hw hne

theorem never_get {m : Nat} {y : Int} (hy : 0 ≤ y) (hm : y < m) : getI (List.replicate m never) y = never := by
  unfold getI; rw [List.getD_eq_getElem?_getD, List.getElem?_replicate, if_pos (by omega)]; rfl
theorem before_get {m : Nat} {y : Int} (hy : 0 ≤ y) (hm : y < m) : getI (List.replicate m (-1 : Int)) y = -1 := by
  unfold getI; rw [List.getD_eq_getElem?_getD, List.getElem?_replicate, if_pos (by omega)]; rfl

theorem nowS_inv (hn : n.Good) (hp : p.Good) (hf : 0 ≤ frm ∧ frm < n.places) (hs : 0 ≤ start ∧ start ≤ 2880) : ∀ k, NowInv n p frm start k (nowS n p frm start k)
  | 0 => by
    have hl : frm.toNat < (List.replicate n.places.toNat never).length := by simp; omega
    show NowInv n p frm start 0 (arrivals0 n frm start)
    refine ⟨by simp [arrivals0], fun y hy hyn => ?_⟩
    unfold arrivals0
    rw [getI_set _ _ _ _ hf.1 hl hy]
    split
    · rename_i e; subst e; exact .inr ⟨hs.1, hs.2, .refl⟩
    · left; exact never_get hy (by omega)
  | k + 1 => (foldS_step hn hp (nowS_inv hn hp hf hs k) (waysL n p (-1)) _ (fun _ h => h) ⟨by simp, fun y hy hyn => .inl (never_get hy (by omega))⟩).1

theorem nowS_step (hn : n.Good) (hp : p.Good) (hf : 0 ≤ frm ∧ frm < n.places) (hs : 0 ≤ start ∧ start ≤ 2880) (k : Nat) {w : Nat × Path} (hw : w ∈ waysL n p (-1)) (hne : getI (nowS n p frm start k) w.2.frm ≠ never) :
    getI (nowS n p frm start (k + 1)) w.2.to ≤ arriveF w.2.opens (getI (nowS n p frm start k) w.2.frm) (spanW w.2 p).hi :=
  (foldS_step hn hp (nowS_inv hn hp hf hs k) (waysL n p (-1)) _ (fun _ h => h) ⟨by simp, fun y hy hyn => .inl (never_get hy (by omega))⟩).2.2 w hw hne

/-- What is reached with so many paths is not missed. -/
theorem nowS_least (hn : n.Good) (hp : p.Good) (hf : 0 ≤ frm ∧ frm < n.places) (hs : 0 ≤ start ∧ start ≤ 2880) {k : Nat} {y t : Int} (h : ReachN n p frm start k y t) : getI (nowS n p frm start k) y ≤ t := by
  have hv : never = 1073741824 := rfl
  have hok := (ways_ok hn hp (-1)).1
  induction h with
  | refl =>
    have hl : frm.toNat < (List.replicate n.places.toNat never).length := by simp; omega
    show getI (arrivals0 n frm start) frm ≤ start
    unfold arrivals0; rw [getI_set _ _ _ _ hf.1 hl hf.1, if_pos rfl]; exact Int.le_refl _
  | @step k y t w hr hm hfe hle ih =>
    have hrg := hr.reach.range hok hs hf
    obtain ⟨_, _, w3⟩ := hok w hm
    have w3 : okTime (spanW w.2 p).hi := w3
    have hne : getI (nowS n p frm start k) w.2.frm ≠ never := by rw [hfe]; omega
    have h1 := nowS_step hn hp hf hs k hm hne
    rw [hfe] at h1
    have h0 : 0 ≤ getI (nowS n p frm start k) y := by
      rcases (nowS_inv hn hp hf hs k).2 y (by omega) (by omega) with h | h <;> omega
    exact Int.le_trans h1 (arrive_mono h0 ih w3)

/-- The lowest arrival is reached with few paths. -/
theorem few_paths (hn : n.Good) (hp : p.Good) (hf : 0 ≤ frm ∧ frm < n.places) (hs : 0 ≤ start ∧ start ≤ 2880) : ∀ (r : Nat) (y : Int), 0 ≤ y → y < n.places → getI (arrivalsL n p spanHi frm start (-1)) y ≠ never →
    lower n.places.toNat (fun z => getI (arrivalsL n p spanHi frm start (-1)) z) y ≤ r → ∃ k, k ≤ r ∧ ReachN n p frm start k y (getI (arrivalsL n p spanHi frm start (-1)) y) := by
  have hv : never = 1073741824 := rfl
  have hok := (ways_ok hn hp (-1)).1
  obtain ⟨A1, A2⟩ := arr_spec (q := spanHi) (but := -1) hok hf hs
  obtain ⟨D, hD⟩ : ∃ D : Int → Int, D = fun z => getI (arrivalsL n p spanHi frm start (-1)) z := ⟨_, rfl⟩
  have A1' : ∀ y, 0 ≤ y → y < n.places → D y = never ∨ (0 ≤ D y ∧ D y ≤ 2880 ∧ Reach (waysL n p (-1)) (durHi p) frm start y (D y)) := by rw [hD]; exact A1
  have A2' : ∀ y t, Reach (waysL n p (-1)) (durHi p) frm start y t → D y ≤ t := by rw [hD]; exact A2
  clear A1 A2
  intro r
  have key : ∀ r (y : Int), 0 ≤ y → y < n.places → D y ≠ never → lower n.places.toNat D y ≤ r → ∃ k, k ≤ r ∧ ReachN n p frm start k y (D y) := by
    intro r
    induction r with
    | zero =>
      intro y hy hyn hne hlow
      rcases A1' y hy hyn with h | ⟨h1, h2, h3⟩
      · exact absurd h hne
      obtain ⟨dy, hdy⟩ : ∃ dy, dy = D y := ⟨_, rfl⟩
      rw [← hdy] at h3 h2 h1 ⊢
      cases h3 with
      | refl => exact ⟨0, Nat.le_refl _, .refl⟩
      | @step z t w hr hm hfe hle =>
        exfalso
        have hrg := hr.range hok hs hf
        obtain ⟨_, _, w3⟩ := hok w hm
        have w3 : okTime (durHi p w.2) := w3
        have hlt : D z < D w.2.to := by
          have h4 := A2' z t hr
          rcases arrive_range (opens := w.2.opens) (t := t) (by omega) w3 with h | h
          · omega
          · unfold okTime at w3; omega
        have := lower_lt (m := n.places.toNat) hlt (by omega)
        omega
    | succ r ih =>
      intro y hy hyn hne hlow
      rcases A1' y hy hyn with h | ⟨h1, h2, h3⟩
      · exact absurd h hne
      obtain ⟨dy, hdy⟩ : ∃ dy, dy = D y := ⟨_, rfl⟩
      rw [← hdy] at h3 h2 h1 ⊢
      cases h3 with
      | refl => exact ⟨0, Nat.zero_le _, .refl⟩
      | @step z t w hr hm hfe hle =>
        have hrg := hr.range hok hs hf
        obtain ⟨_, _, w3⟩ := hok w hm
        have w3 : okTime (durHi p w.2) := w3
        have h4 := A2' z t hr
        have hlt : D z < D w.2.to := by
          rcases arrive_range (opens := w.2.opens) (t := t) (by omega) w3 with h | h
          · omega
          · unfold okTime at w3; omega
        have hlz := lower_lt (m := n.places.toNat) hlt (by omega)
        have hDz : D z ≠ never := by omega
        obtain ⟨k, hk, hrk⟩ := ih z (by omega) (by omega) hDz (by omega)
        have hz0 : 0 ≤ D z := by rcases A1' z (by omega) (by omega) with h | h <;> omega
        have hle' := arrive_mono (opens := w.2.opens) hz0 h4 w3
        have hge := A2' w.2.to _ (Reach.step w hrk.reach hm hfe (by omega))
        have he : arriveF w.2.opens t (durHi p w.2) = arriveF w.2.opens (D z) (spanW w.2 p).hi := by
          have e1 : arriveF w.2.opens (D z) (spanW w.2 p).hi = arriveF w.2.opens (D z) (durHi p w.2) := rfl
          rw [e1]
          rw [← hdy] at hge
          change arriveF w.2.opens t (durHi p w.2) ≤ _ at hge
          omega
        refine ⟨k + 1, by omega, ?_⟩
        rw [he]
        exact .step w hrk hm hfe (by rw [← he]; exact hle)
  rw [hD] at key
  exact key r

theorem idxFrom_spec {α : Type} {q : α → Bool} : ∀ (l : List α) (i k : Nat) (x : α), l[k]? = some x → q x = true → ∃ j, j ≤ k ∧ idxFrom q l i = ((i + j : Nat) : Int) ∧ (∃ y, l[j]? = some y ∧ q y = true) ∧ ∀ m y, m < j → l[m]? = some y → q y = false
  | [], i, k, x, h, _ => by simp at h
  | a :: l, i, k, x, h, hq => by
    unfold idxFrom
    by_cases ha : q a = true
    · rw [if_pos ha]
      exact ⟨0, Nat.zero_le _, rfl, ⟨a, rfl, ha⟩, fun m y hm => by omega⟩
    · rw [if_neg ha]
      cases k with
      | zero => simp at h; subst h; exact absurd hq ha
      | succ k =>
        obtain ⟨j, h1, h2, h3, h4⟩ := idxFrom_spec l (i + 1) k x (by simpa using h) hq
        refine ⟨j + 1, by omega, by rw [h2]; congr 1; omega, by simpa using h3, fun m y hm hy => ?_⟩
        cases m with
        | zero => simp at hy; subst hy; simpa using ha
        | succ m => exact h4 m y (by omega) (by simpa using hy)

/-- With how few paths the lowest arrival is reached. -/
theorem fewest_spec (hn : n.Good) (hp : p.Good) (hf : 0 ≤ frm ∧ frm < n.places) (hs : 0 ≤ start ∧ start ≤ 2880) {to : Int} (ht : 0 ≤ to ∧ to < n.places) (hne : getI (arrivalsL n p spanHi frm start (-1)) to ≠ never) :
    ∃ K : Nat, fewest n p frm start to (getI (arrivalsL n p spanHi frm start (-1)) to) = K ∧ K < n.places.toNat ∧ ReachN n p frm start K to (getI (arrivalsL n p spanHi frm start (-1)) to) ∧
      ∀ j t, j < K → ReachN n p frm start j to t → getI (arrivalsL n p spanHi frm start (-1)) to < t := by
  have hok := (ways_ok hn hp (-1)).1
  obtain ⟨arr, harr⟩ : ∃ arr, arr = getI (arrivalsL n p spanHi frm start (-1)) to := ⟨_, rfl⟩
  obtain ⟨A1, A2⟩ := arr_spec (q := spanHi) (but := -1) hok hf hs
  have hA2 := A2 to
  have hA1 := A1 to ht.1 ht.2
  obtain ⟨k, hk, hr⟩ := few_paths hn hp hf hs (n.places.toNat - 1) to ht.1 ht.2 hne (by have := lower_le (m := n.places.toNat) (d := fun z => getI (arrivalsL n p spanHi frm start (-1)) z) (y := to) (by omega); omega)
  rw [← harr] at hr hne hA2 hA1 ⊢
  have hpl := hn.places
  have hge : ∀ k, arr ≤ getI (nowS n p frm start k) to := by
    intro k
    rcases (nowS_inv hn hp hf hs k).2 to ht.1 ht.2 with h | ⟨_, _, h⟩
    · have hv : never = 1073741824 := rfl
      rcases hA1 with h' | h' <;> omega
    · exact hA2 _ h.reach
  have hget : ∀ j, j < n.places.toNat → (stepsL n p frm start (n.places.toNat - 1))[j]? = some (nowS n p frm start j) := by
    intro j hj
    simp [stepsL, show j < n.places.toNat - 1 + 1 by omega]
  have hkq : (getI (nowS n p frm start k) to == arr) = true := by
    have h1 := nowS_least hn hp hf hs hr
    have h2 := hge k
    simp; omega
  obtain ⟨K, h1, h2, ⟨l, h3, h4⟩, h5⟩ := idxFrom_spec (q := fun l => getI l to == arr) (stepsL n p frm start (n.places.toNat - 1)) 0 k _ (hget k (by omega)) hkq
  have hKl : K < n.places.toNat := by omega
  rw [hget K hKl] at h3
  cases h3
  have hKe : getI (nowS n p frm start K) to = arr := by simpa using h4
  refine ⟨K, by unfold fewest; rw [h2]; simp, hKl, ?_, fun j t hj hrj => ?_⟩
  · rcases (nowS_inv hn hp hf hs K).2 to ht.1 ht.2 with h | ⟨_, _, h⟩
    · rw [hKe] at h; exact absurd h hne
    · rwa [hKe] at h
  · have h6 := h5 j _ hj (hget j (by omega))
    have h7 := nowS_least hn hp hf hs hrj
    have h8 := hge j
    have h9 : getI (nowS n p frm start j) to ≠ arr := by simpa using h6
    omega
end
end Go.Ab
/- Plain laws of layer 1: the route that is returned, path by path. -/
namespace Go.Ab
open Go.RowKit Go.Proofs
set_option maxHeartbeats 1000000

/-- Not behind, path by path. -/
def lexLe : List Int → List Int → Prop
  | [], _ => True
  | _ :: _, [] => False
  | a :: l, b :: m => a < b ∨ (a = b ∧ lexLe l m)

section
variable {n : Net} {p : Party} {to arr : Int}

theorem foldBy_spec (hn : n.Good) (hp : p.Good) {cur : List Int} (t y : Int) (hy : 0 ≤ y) : ∀ (ws : List (Nat × Path)) (l : List Int), (∀ w ∈ ws, w ∈ waysL n p (-1)) → l.length = n.places.toNat →
    (t ≤ getI (ws.foldl (relaxBy p cur) l) y ↔ t ≤ getI l y ∨ ∃ w ∈ ws, w.2.frm = y ∧ t ≤ latestF w.2.opens (wr (getI cur w.2.to - (spanW w.2 p).hi))) := by
  intro ws
  induction ws with
  | nil => intro l _ _; simp
  | cons v ws ih =>
    intro l hs hl
    obtain ⟨v1, _, _⟩ := (ways_ok hn hp (-1)).1 v (hs v (by simp))
    have hsz : v.2.frm.toNat < l.length := by omega
    rw [List.foldl_cons, ih _ (fun w hw => hs w (by simp [hw])) (by rw [relaxBy_len, hl])]
    unfold relaxBy
    rw [getI_set _ _ _ _ v1.1 hsz hy]
    simp only [List.mem_cons, exists_eq_or_imp]
    by_cases h : y = v.2.frm
    · subst h
      rw [if_pos rfl]
      constructor
      · rintro (h1 | h1)
        · by_cases h2 : t ≤ getI l v.2.frm
          · exact .inl h2
          · exact .inr (.inl ⟨rfl, by omega⟩)
        · exact .inr (.inr h1)
      · rintro (h1 | ⟨_, h1⟩ | h1)
        · exact .inl (by omega)
        · exact .inl (by omega)
        · exact .inr h1
    · rw [if_neg h]
      constructor
      · rintro (h1 | h1)
        · exact .inl h1
        · exact .inr (.inr h1)
      · rintro (h1 | ⟨h2, _⟩ | h1)
        · exact .inl h1
        · exact absurd h2.symm h
        · exact .inr h1

theorem byL_range (hn : n.Good) (hp : p.Good) (ht : 0 ≤ to ∧ to < n.places) (ha : 0 ≤ arr ∧ arr ≤ 2880) : ∀ (k : Nat) (y : Int), 0 ≤ y → y < n.places → -1 ≤ getI (byL n p to arr k) y ∧ getI (byL n p to arr k) y ≤ 2880
  | 0, y, hy, hyn => by
    have hl : to.toNat < (List.replicate n.places.toNat (-1 : Int)).length := by simp; omega
    show -1 ≤ getI (deadlines0 n to arr) y ∧ getI (deadlines0 n to arr) y ≤ 2880
    unfold deadlines0
    rw [getI_set _ _ _ _ ht.1 hl hy]
    split
    · omega
    · rw [before_get hy (by omega)]; omega
  | k + 1, y, hy, hyn => by
    obtain ⟨c, hc⟩ : ∃ c, c = byL n p to arr k := ⟨_, rfl⟩
    have e : byL n p to arr (k + 1) = byNext n p c := by rw [hc]; rfl
    rw [e]
    constructor
    · refine (foldBy_spec hn hp (-1) y hy (waysL n p (-1)) _ (fun _ h => h) (by simp)).2 (.inl ?_)
      rw [before_get hy (by omega)]; exact Int.le_refl _
    · by_cases h : getI (byNext n p c) y ≤ 2880
      · exact h
      · exfalso
        rcases (foldBy_spec (cur := c) hn hp 2881 y hy (waysL n p (-1)) (List.replicate n.places.toNat (-1)) (fun _ h => h) (by simp)).1 (by unfold byNext at h; omega) with h1 | ⟨w, hw, _, h1⟩
        · rw [before_get hy (by omega)] at h1; omega
        · have := latestF_le (wr (getI c w.2.to - (spanW w.2 p).hi)) w.2.opens (-1) (by omega) (hn.hi w.2 (List.mem_of_getElem? (waysL_get hw)))
          change latestF _ _ ≤ 2880 at this
          omega

/-- When the party must be at each place: one path more. -/
theorem byL_spec (hn : n.Good) (hp : p.Good) (ht : 0 ≤ to ∧ to < n.places) (ha : 0 ≤ arr ∧ arr ≤ 2880) (k : Nat) {y t : Int} (hy : 0 ≤ y) (hyn : y < n.places) (h0 : 0 ≤ t) :
    t ≤ getI (byL n p to arr (k + 1)) y ↔ ∃ w ∈ waysL n p (-1), w.2.frm = y ∧ arriveF w.2.opens t (spanW w.2 p).hi ≤ getI (byL n p to arr k) w.2.to := by
  obtain ⟨c, hc⟩ : ∃ c, c = byL n p to arr k := ⟨_, rfl⟩
  have e : byL n p to arr (k + 1) = byNext n p c := by rw [hc]; rfl
  have hr := byL_range hn hp ht ha k
  rw [e, ← hc]
  rw [← hc] at hr
  unfold byNext
  rw [foldBy_spec hn hp t y hy (waysL n p (-1)) _ (fun _ h => h) (by simp), before_get hy (by omega)]
  constructor
  · rintro (h1 | ⟨w, hw, hf, h1⟩)
    · omega
    · obtain ⟨_, w2, w3⟩ := (ways_ok hn hp (-1)).1 w hw
      have hb := hr w.2.to w2.1 w2.2
      exact ⟨w, hw, hf, (latest_iff h0 w3 hb.2 hb.1).1 h1⟩
  · rintro ⟨w, hw, hf, h1⟩
    obtain ⟨_, w2, w3⟩ := (ways_ok hn hp (-1)).1 w hw
    have hb := hr w.2.to w2.1 w2.2
    exact .inr ⟨w, hw, hf, (latest_iff h0 w3 hb.2 hb.1).2 h1⟩

theorem byL_zero (ht : 0 ≤ to ∧ to < n.places) {y t : Int} (hy : 0 ≤ y) (hyn : y < n.places) (h0 : 0 ≤ t) : t ≤ getI (byL n p to arr 0) y ↔ y = to ∧ t ≤ arr := by
  have hl : to.toNat < (List.replicate n.places.toNat (-1 : Int)).length := by simp; omega
  show t ≤ getI (deadlines0 n to arr) y ↔ _
  unfold deadlines0
  rw [getI_set _ _ _ _ ht.1 hl hy]
  split
  · rename_i h; subst h; simp
  · rename_i h
    rw [before_get hy (by omega)]
    constructor
    · intro h1; omega
    · rintro ⟨h1, _⟩; exact absurd h1 h

/-- Who comes in time over so many paths, is in time for them. -/
theorem Trail.by (hn : n.Good) (hp : p.Good) (ht : 0 ≤ to ∧ to < n.places) (ha : 0 ≤ arr ∧ arr ≤ 2880) {y t z u : Int} {r : List Int} (h : Trail n p y t r z u) : 0 ≤ y → y < n.places → 0 ≤ t → z = to → u ≤ arr → t ≤ getI (byL n p to arr r.length) y := by
  induction h with
  | nil y t =>
    intro hy hyn h0 hz hu
    exact (byL_zero ht hy hyn h0).2 ⟨hz, hu⟩
  | @cons y t z u r w hm hf hle hr ih =>
    intro hy hyn h0 hz hu
    obtain ⟨_, w2, w3⟩ := (ways_ok hn hp (-1)).1 w hm
    have w3 : okTime (spanW w.2 p).hi := w3
    have h1 : 0 ≤ arriveF w.2.opens t (spanW w.2 p).hi := by
      have hv : never = 1073741824 := rfl
      rcases arrive_range (opens := w.2.opens) h0 w3 with h | h
      · omega
      · unfold okTime at w3; omega
    exact (byL_spec hn hp ht ha r.length hy hyn h0).2 ⟨w, hm, hf, ih w2.1 w2.2 h1 hz hu⟩

theorem find_first (p : Party) (but : Int) (q : Nat × Path → Bool) : ∀ (l : List Path) (i : Nat) (w : Nat × Path), (waysFrom p but l i).find? q = some w → ∀ v ∈ waysFrom p but l i, q v = true → w.1 ≤ v.1
  | [], i, w, h, v, hv, _ => by simp [waysFrom] at hv
  | x :: l, i, w, h, v, hv, hq => by
    unfold waysFrom at h hv
    split at h
    · rename_i hc
      rw [if_pos hc] at hv
      rw [List.find?_cons] at h
      split at h
      · cases h
        rcases List.mem_cons.1 hv with rfl | hv
        · exact Nat.le_refl _
        · have := (waysFrom_mem p but l (i + 1) v hv).1
          show i ≤ v.1
          omega
      · rename_i hqx
        rcases List.mem_cons.1 hv with rfl | hv
        · rw [hq] at hqx; cases hqx
        · exact find_first p but q l (i + 1) w h v hv hq
    · rename_i hc
      rw [if_neg hc] at hv
      exact find_first p but q l (i + 1) w h v hv hq

/-- The route goes on, path by path, and is not behind any other in time. -/
theorem routeD_spec (hn : n.Good) (hp : p.Good) (ht : 0 ≤ to ∧ to < n.places) (ha : 0 ≤ arr ∧ arr ≤ 2880) : ∀ (k : Nat) (l : List Int) (y t : Int), 0 ≤ y → y < n.places → 0 ≤ t → t ≤ 2880 → t ≤ getI (byL n p to arr k) y →
    ∃ r u, routeD n p to arr k (l, y, t) = (l ++ r, to, u) ∧ r.length = k ∧ Trail n p y t r to u ∧ u ≤ arr ∧ ∀ r' u', Trail n p y t r' to u' → u' ≤ arr → r'.length = k → lexLe r r'
  | 0, l, y, t, hy, hyn, h0, h1, hb => by
    obtain ⟨hyt, hb'⟩ := (byL_zero ht hy hyn h0).1 hb
    exact ⟨[], t, by simp [routeD, hyt], rfl, hyt ▸ .nil _ _, hb', fun r' u' _ _ _ => by simp [lexLe]⟩
  | k + 1, l, y, t, hy, hyn, h0, h1, hb => by
    obtain ⟨v, hv, hvf, hva⟩ := (byL_spec hn hp ht ha k hy hyn h0).1 hb
    have hrg := byL_range hn hp ht ha k
    have hfit : ∀ w, fitsR p (byL n p to arr k) (l, y, t) w = true ↔ w.2.frm = y ∧ arriveF w.2.opens t (spanW w.2 p).hi ≤ getI (byL n p to arr k) w.2.to := by
      intro w; unfold fitsR; simp
    have hsome : ((waysL n p (-1)).find? (fitsR p (byL n p to arr k) (l, y, t))).isSome = true := by
      rw [List.find?_isSome]
      exact ⟨v, hv, (hfit v).2 ⟨hvf, hva⟩⟩
    obtain ⟨w, hw⟩ := Option.isSome_iff_exists.1 hsome
    have hwm : w ∈ waysL n p (-1) := List.mem_of_find?_eq_some hw
    obtain ⟨hwf, hwa⟩ := (hfit w).1 (by simpa using List.find?_some hw)
    obtain ⟨_, w2, w3⟩ := (ways_ok hn hp (-1)).1 w hwm
    have w3 : okTime (spanW w.2 p).hi := w3
    have hb2 := hrg w.2.to w2.1 w2.2
    have hle : arriveF w.2.opens t (spanW w.2 p).hi ≤ 2880 := by omega
    have hge : 0 ≤ arriveF w.2.opens t (spanW w.2 p).hi := by
      have hv : never = 1073741824 := rfl
      rcases arrive_range (opens := w.2.opens) h0 w3 with h | h
      · omega
      · unfold okTime at w3; omega
    obtain ⟨r, u, e1, e2, e3, e4, e5⟩ := routeD_spec hn hp ht ha k (l ++ [(w.1 : Int)]) w.2.to _ w2.1 w2.2 hge hle hwa
    refine ⟨(w.1 : Int) :: r, u, ?_, by simp [e2], .cons w hwm hwf hle e3, e4, fun r' u' ht' hu' hl' => ?_⟩
    · show routeD n p to arr k (stepR n p (byL n p to arr k) (l, y, t)) = _
      unfold stepR
      rw [hw]
      dsimp only
      rw [e1]
      simp
    · cases ht' with
      | nil => simp at hl'
      | @cons _ _ _ _ r2 w' hm' hf' hle' htr =>
        obtain ⟨_, v2, v3⟩ := (ways_ok hn hp (-1)).1 w' hm'
        have v3 : okTime (spanW w'.2 p).hi := v3
        have hge' : 0 ≤ arriveF w'.2.opens t (spanW w'.2 p).hi := by
          have hv : never = 1073741824 := rfl
          rcases arrive_range (opens := w'.2.opens) h0 v3 with h | h
          · omega
          · unfold okTime at v3; omega
        have hl2 : r2.length = k := by simpa using hl'
        have hby := htr.by hn hp ht ha v2.1 v2.2 hge' rfl hu'
        rw [hl2] at hby
        have hfst := find_first p (-1) _ n.paths 0 w hw w' hm' ((hfit w').2 ⟨hf', hby⟩)
        by_cases heq : w.1 = w'.1
        · have hpe : w = w' := by
            have g1 := waysL_get hwm
            have g2 := waysL_get hm'
            rw [heq, g2] at g1
            exact Prod.ext heq (Option.some.inj g1).symm
          subst hpe
          exact Or.inr ⟨rfl, e5 r2 u' htr hu' hl2⟩
        · exact Or.inl (by omega)

end

theorem ReachN.trail {n : Net} {p : Party} {x s : Int} {k : Nat} {y t : Int} (h : ReachN n p x s k y t) : ∀ {z u : Int} {r : List Int}, Trail n p y t r z u → ∃ r', r'.length = k + r.length ∧ Trail n p x s r' z u := by
  induction h with
  | refl => exact fun ht => ⟨_, by simp, ht⟩
  | @step k y t w _ hm hf hle ih =>
    intro z u r ht
    obtain ⟨r', h1, h2⟩ := ih (.cons w hm hf hle ht)
    exact ⟨r', by rw [h1]; simp; omega, h2⟩

theorem Trail.reachN {n : Net} {p : Party} {x s : Int} {y t z u : Int} {r : List Int} (h : Trail n p y t r z u) : ∀ {k : Nat}, ReachN n p x s k y t → ReachN n p x s (k + r.length) z u := by
  induction h with
  | nil => exact fun h => h
  | cons w hm hf hle _ ih =>
    intro k hk
    have := ih (.step w hk hm hf hle)
    rw [List.length_cons]
    rw [Nat.add_assoc, Nat.add_comm 1] at this
    exact this

/-- What Route returns. -/
theorem routeL_spec {n : Net} {p : Party} {frm start to : Int} (hn : n.Good) (hp : p.Good) (hf : 0 ≤ frm ∧ frm < n.places) (ht : 0 ≤ to ∧ to < n.places) (hs : 0 ≤ start ∧ start ≤ 2880) (hne : getI (arrivalsL n p spanHi frm start (-1)) to ≠ never) :
    ∃ r, routeL n p frm start to = (r, getI (arrivalsL n p spanHi frm start (-1)) to, 0) ∧ r.length < n.places.toNat ∧ Trail n p frm start r to (getI (arrivalsL n p spanHi frm start (-1)) to) ∧
      (∀ r', Trail n p frm start r' to (getI (arrivalsL n p spanHi frm start (-1)) to) → r.length ≤ r'.length) ∧
      ∀ r', Trail n p frm start r' to (getI (arrivalsL n p spanHi frm start (-1)) to) → r'.length = r.length → lexLe r r' := by
  obtain ⟨K, h1, h2, h3, h4⟩ := fewest_spec hn hp hf hs ht hne
  obtain ⟨a1, a2⟩ := arr_spec (q := spanHi) (but := -1) (ways_ok hn hp (-1)).1 hf hs
  have hop : openF n p [frm, to] [start] = 0 := open_iff.2 ⟨hn, hp, by simpa using ⟨hf, ht⟩, by simpa using hs⟩
  have hA := a1 to ht.1 ht.2
  have hA2 := a2 to
  obtain ⟨arr, harr⟩ : ∃ arr, arr = getI (arrivalsL n p spanHi frm start (-1)) to := ⟨_, rfl⟩
  have hrl : routeL n p frm start to = ((routeD n p to arr K ([], frm, start)).1, arr, 0) := by
    unfold routeL
    rw [if_pos hop]
    dsimp only
    rw [if_neg hne, h1, harr]
    simp
  rw [← harr] at h3 h4 hA hA2 hne ⊢
  have ha : 0 ≤ arr ∧ arr ≤ 2880 := by rcases hA with h | ⟨h, h', _⟩; exact absurd h hne; exact ⟨h, h'⟩
  obtain ⟨r0, hr0, ht0⟩ := h3.trail (.nil to arr)
  have hb := ht0.by hn hp ht ha hf.1 hf.2 hs.1 rfl (Int.le_refl _)
  rw [hr0] at hb
  obtain ⟨r, u, e1, e2, e3, e4, e5⟩ := routeD_spec hn hp ht ha K [] frm start hf.1 hf.2 hs.1 hs.2 hb
  have hu : u = arr := by
    have := hA2 u e3.reach
    omega
  subst hu
  refine ⟨r, by rw [hrl, e1]; simp, by omega, e3, fun r' hr' => ?_, fun r' hr' hl => e5 r' _ hr' (Int.le_refl _) (by omega)⟩
  by_cases hlt : r'.length < K
  · have := hr'.reachN (x := frm) (s := start) (ReachN.refl)
    rw [Nat.zero_add] at this
    have := h4 _ _ hlt this
    omega
  · omega

theorem routeL_never {n : Net} {p : Party} {frm start to : Int} (hop : openF n p [frm, to] [start] = 0) (h : getI (arrivalsL n p spanHi frm start (-1)) to = never) : routeL n p frm start to = ([], 0, 3) := by
  unfold routeL
  rw [if_pos hop]
  dsimp only
  rw [if_pos h]

/-- Route, with nothing more to be shown. -/
theorem f15' (n : Net) (p : Party) (frm start to : Int) (hs : n.Small) : Fn Try.prog 15 [.agg n.cells, .agg p.cells, .i frm, .i start, .i to]
    (.tup [.sl (intRows (routeL n p frm start to).1), .i (routeL n p frm start to).2.1, .i (routeL n p frm start to).2.2]) := by
  refine f15 n p frm start to hs fun hop hne => ?_
  have ho := open_iff.1 hop
  obtain ⟨K, h1, h2, _, _⟩ := fewest_spec ho.net ho.party (ho.place frm (by simp)) (ho.minute start (by simp)) (ho.place to (by simp)) hne
  exact ⟨K, h1, by have := ho.net.places; omega⟩
end Go.Ab
/- Plain laws of layer 1: a path that is shut; paths that must stay open. -/
namespace Go.Ab
open Go.RowKit Go.Proofs
set_option maxHeartbeats 1000000

/-- The net with a path that never opens. -/
def Path.shut (x : Path) : Path := { x with opens := [] }
def Net.shut (n : Net) (i : Nat) : Net := { n with paths := n.paths.modify i Path.shut }

theorem shut_get (n : Net) (i j : Nat) : (n.shut i).paths[j]? = (n.paths[j]?).map fun x => if j = i then x.shut else x := by
  unfold Net.shut
  rw [List.getElem?_modify]
  show Option.map _ _ = _
  congr 1
  funext a
  by_cases h : i = j
  · subst h; simp
  · have : ¬ j = i := fun e => h e.symm
    simp [this, h]

theorem shut_span (x : Path) (p : Party) : spanW x.shut p = spanW x p := rfl

theorem shut_good {n : Net} (h : n.Good) (i : Nat) : (n.shut i).Good := by
  refine ⟨h.places, by simpa [Net.shut] using h.paths, fun y hy => ?_⟩
  obtain ⟨j, hj⟩ := List.getElem?_of_mem hy
  rw [shut_get] at hj
  obtain ⟨x, hx, he⟩ := Option.map_eq_some_iff.1 hj
  have hg := h.path x (List.mem_of_getElem? hx)
  have hp : (n.shut i).places = n.places := rfl
  split at he
  · subst he
    exact ⟨hg.frm, hg.to, hg.ne, hg.grade, hg.time, hg.snow, by simp [Path.shut], by simp [Path.shut]⟩
  · subst he
    exact ⟨hg.frm, hg.to, hg.ne, hg.grade, hg.time, hg.snow, hg.len, hg.opens⟩

theorem arrive_shut {t d : Int} (ht : 0 ≤ t) (hd : okTime d) : ¬ arriveF [] t d ≤ 2880 := by
  rw [arrive_le_iff ht hd (Int.le_refl _)]
  simp

section
variable {n : Net} {p : Party} {frm start : Int}

theorem reach_shut (hn : n.Good) (hp : p.Good) (hf : 0 ≤ frm ∧ frm < n.places) (hs : 0 ≤ start ∧ start ≤ 2880) (i : Nat) {y t : Int} :
    Reach (waysL (n.shut i) p (-1)) (durHi p) frm start y t ↔ Reach (waysL n p (i : Int)) (durHi p) frm start y t := by
  have ok1 := (ways_ok (shut_good hn i) hp (-1)).1
  have ok2 := (ways_ok hn hp (i : Int)).1
  constructor
  · intro h
    induction h with
    | refl => exact .refl
    | @step y t w hr hm hfe hle ih =>
      have hrg := ih.range ok2 hs hf
      obtain ⟨g1, g2, _⟩ := waysL_iff.1 hm
      have w3 : okTime (durHi p w.2) := (ok1 w hm).2.2
      rw [shut_get] at g1
      obtain ⟨x, hx, he⟩ := Option.map_eq_some_iff.1 g1
      split at he
      · exfalso
        rw [← he] at hle
        exact arrive_shut (by omega) (by rw [← he] at w3; exact w3) hle
      · rename_i hne
        refine .step w ih (waysL_iff.2 ⟨by rw [hx, he], g2, fun e => hne (by omega)⟩) hfe hle
  · intro h
    induction h with
    | refl => exact .refl
    | @step y t w hr hm hfe hle ih =>
      obtain ⟨g1, g2, g3⟩ := waysL_iff.1 hm
      refine .step w ih (waysL_iff.2 ⟨?_, g2, by omega⟩) hfe hle
      rw [shut_get, g1]
      have : ¬ w.1 = i := fun e => g3 (by omega)
      simp [this]

/-- The lowest arrivals are told by what is reached. -/
theorem arr_unique {n' : Net} {p' : Party} {q q' : Span → Int} {but but' : Int} (ok1 : OkWs n (fun x => q (spanW x p)) (waysL n p but)) (ok2 : OkWs n' (fun x => q' (spanW x p')) (waysL n' p' but')) (hpl : n'.places = n.places)
    (hf : 0 ≤ frm ∧ frm < n.places) (hs : 0 ≤ start ∧ start ≤ 2880) {y : Int} (hy : 0 ≤ y ∧ y < n.places)
    (h : ∀ t, Reach (waysL n p but) (fun x => q (spanW x p)) frm start y t ↔ Reach (waysL n' p' but') (fun x => q' (spanW x p')) frm start y t) :
    getI (arrivalsL n p q frm start but) y = getI (arrivalsL n' p' q' frm start but') y := by
  have hv : never = 1073741824 := rfl
  obtain ⟨a1, a2⟩ := arr_spec ok1 hf hs
  obtain ⟨b1, b2⟩ := arr_spec ok2 (by rw [hpl]; exact hf) hs
  have a2 := a2 y
  have b2 := b2 y
  rcases a1 y hy.1 hy.2 with h1 | ⟨h1, h2, h3⟩
  · rcases b1 y hy.1 (by rw [hpl]; exact hy.2) with g1 | ⟨g1, g2, g3⟩
    · rw [h1, g1]
    · have := a2 _ ((h _).2 g3); omega
  · rcases b1 y hy.1 (by rw [hpl]; exact hy.2) with g1 | ⟨g1, g2, g3⟩
    · have := b2 _ ((h _).1 h3); omega
    · have e1 := a2 _ ((h _).2 g3)
      have e2 := b2 _ ((h _).1 h3)
      omega

theorem arr_shut (hn : n.Good) (hp : p.Good) (hf : 0 ≤ frm ∧ frm < n.places) (hs : 0 ≤ start ∧ start ≤ 2880) (i : Nat) {to : Int} (ht : 0 ≤ to ∧ to < n.places) :
    getI (arrivalsL (n.shut i) p spanHi frm start (-1)) to = getI (arrivalsL n p spanHi frm start (i : Int)) to :=
  arr_unique (n := n.shut i) (q := spanHi) (q' := spanHi) (ways_ok (shut_good hn i) hp (-1)).1 (ways_ok hn hp (i : Int)).1 rfl hf hs ht fun _ => reach_shut hn hp hf hs i

theorem Trail.avoid {i : Int} {y t z u : Int} {r : List Int} (h : Trail n p y t r z u) (hi : i ∉ r) : Reach (waysL n p i) (durHi p) y t z u := by
  induction h with
  | nil => exact .refl
  | cons w hm hf hle _ ih =>
    simp only [List.mem_cons, not_or] at hi
    subst hf
    obtain ⟨g1, g2, _⟩ := waysL_iff.1 hm
    exact Reach.trans (Reach.one (dur := durHi p) (waysL_iff.2 ⟨g1, g2, fun e => hi.1 e.symm⟩) hle) (ih hi.2)

/-- Whatever path the lowest arrival needs is in the route. -/
theorem route_must (hn : n.Good) (hp : p.Good) (hf : 0 ≤ frm ∧ frm < n.places) (hs : 0 ≤ start ∧ start ≤ 2880) {to : Int} {i : Int} {r : List Int} {d : Int}
    (hr : Trail n p frm start r to (getI (arrivalsL n p spanHi frm start (-1)) to)) (hd : getI (arrivalsL n p spanHi frm start (-1)) to ≤ d) (hi : getI (arrivalsL n p spanHi frm start i) to > d) : i ∈ r := by
  by_cases h : i ∈ r
  · exact h
  · have h1 := hr.avoid h
    have h2 := (arr_spec (q := spanHi) (but := i) (ways_ok hn hp i).1 hf hs).2 to _ h1
    omega
end

/-! ### Numbers that are picked -/

theorem selL_any (q : Nat → Bool) (k i : Nat) (h : i < k) : ((selL q k).any fun y => y == (i : Int)) = q i := by
  unfold selL
  cases hq : q i with
  | true =>
    rw [List.any_eq_true]
    refine ⟨(i : Int), List.mem_map.2 ⟨i, ?_, rfl⟩, by simp⟩
    simp [h, hq]
  | false =>
    rw [List.any_eq_false]
    intro y hy hc
    obtain ⟨j, hj, rfl⟩ := List.mem_map.1 hy
    have : j = i := by have : (j : Int) = (i : Int) := by simpa using hc
                       omega
    subst this
    simp [hq] at hj

theorem selL_sorted (q : Nat → Bool) (k : Nat) : (selL q k).Pairwise (· < ·) := by
  unfold selL
  rw [List.pairwise_map]
  exact (List.Pairwise.filter _ List.pairwise_lt_range).imp fun h => by omega

theorem selL_mem {q : Nat → Bool} {k : Nat} {y : Int} (h : y ∈ selL q k) : 0 ≤ y ∧ y < k := by
  unfold selL at h
  obtain ⟨j, hj, rfl⟩ := List.mem_map.1 h
  have := List.mem_range.1 (List.mem_filter.1 hj).1
  omega
end Go.Ab
/- Plain laws of layer 1: who walks a route comes in time. -/
namespace Go.Ab
open Go.RowKit Go.Proofs
set_option maxHeartbeats 1000000

theorem posR_cons (n : Net) (p : Party) (s : Int × Int) (v : Int) (r : List Int) (i : Nat) : posR n p s (v :: r) (i + 1) = posR n p (goOn n p s v) r i := rfl

theorem pathAt_way {n : Net} {p : Party} {but : Int} {w : Nat × Path} (h : w ∈ waysL n p but) : pathAt n (w.1 : Int) = w.2 := by
  have := waysL_get h
  simp [pathAt, List.getD, this]

section
variable {n : Net} {p : Party}

theorem Trail.at {y t z u : Int} {r : List Int} (h : Trail n p y t r z u) : ∀ (i : Nat) v, r[i]? = some v → ∃ w ∈ waysL n p (-1), (w.1 : Int) = v ∧ pathAt n v = w.2 ∧ w.2.frm = (posR n p (y, t) r i).1 ∧ arriveF w.2.opens (posR n p (y, t) r i).2 (spanW w.2 p).hi ≤ 2880 := by
  induction h with
  | nil => intro i v hv; simp at hv
  | @cons y t z u r w hm hf hle hr ih =>
    intro i v hv
    have hp := pathAt_way hm
    cases i with
    | zero =>
      simp at hv
      subst hv
      exact ⟨w, hm, rfl, hp, hf, hle⟩
    | succ i =>
      rw [posR_cons]
      have hg : goOn n p (y, t) (w.1 : Int) = (w.2.to, arriveF w.2.opens t (spanW w.2 p).hi) := by unfold goOn; rw [hp]
      rw [hg]
      exact ih i v (by simpa using hv)

theorem Trail.last {y t z u : Int} {r : List Int} (h : Trail n p y t r z u) : posR n p (y, t) r r.length = (z, u) := by
  induction h with
  | nil => rfl
  | @cons y t z u r w hm hf hle hr ih =>
    rw [List.length_cons, posR_cons]
    have hg : goOn n p (y, t) (w.1 : Int) = (w.2.to, arriveF w.2.opens t (spanW w.2 p).hi) := by unfold goOn; rw [pathAt_way hm]
    rw [hg]
    exact ih

theorem Trail.walkR {y t z u : Int} {r : List Int} (h : Trail n p y t r z u) : Go.Ab.walkR n p y r = some z := by
  induction h with
  | nil => rfl
  | @cons y t z u r w hm hf hle hr ih =>
    obtain ⟨g1, g2, _⟩ := waysL_iff.1 hm
    have hlt := (List.getElem?_eq_some_iff.1 g1).1
    have ho : onB n p y (w.1 : Int) = some w.2.to := by
      unfold onB
      rw [if_pos (within_iff.2 (by omega)), Int.toNat_natCast, g1]
      simp [g2, hf]
    show List.foldl _ (onB n p y (w.1 : Int)) r = some z
    rw [ho]
    exact ih

theorem enter_mono {opens : List Span} {a b : Int} (h : a ≤ b) (hb : enterF opens b < never) : enterF opens a ≤ enterF opens b := by
  have h1 := (enter_le_iff b (enterF opens b) opens 1073741824).1 (Int.le_refl _)
  refine (enter_le_iff a (enterF opens b) opens 1073741824).2 ?_
  rcases h1 with h1 | ⟨s, q1, q2, q3⟩
  · have : (1073741824 : Int) = never := rfl
    omega
  · exact .inr ⟨s, q1, by omega, by omega⟩

/-- An arrival that there is: the minute of entering, and the time. -/
theorem arrive_enter {opens : List Span} {t d : Int} (ht : 0 ≤ t) (hd : okTime d) (h : arriveF opens t d ≤ 2880) : arriveF opens t d = enterF opens t + d ∧ enterF opens t < never ∧ t ≤ enterF opens t := by
  have hv : never = 1073741824 := rfl
  rw [arrive_eq ht hd] at h ⊢
  split at h
  · omega
  · rename_i hn
    rw [if_neg hn]
    have h1 : enterF opens t < never := by unfold okTime at hd; omega
    exact ⟨rfl, h1, enter_ge h1⟩

theorem arrive_of {opens : List Span} {t d : Int} (ht : 0 ≤ t) (hd : okTime d) (h : enterF opens t + d ≤ 2880) : arriveF opens t d = enterF opens t + d := by
  rw [arrive_eq ht hd, if_neg (by omega)]

/-- Who takes times within the spans is not later than the route says, and not sooner than the best arrivals. -/
theorem walked_trail (hn : n.Good) (hp : p.Good) {frm start z u : Int} {r ts : List Int} (hf : 0 ≤ frm ∧ frm < n.places) (hs : 0 ≤ start ∧ start ≤ 2880) (h : Trail n p frm start r z u)
    (hts : ∀ (i : Nat) v, r[i]? = some v → i < ts.length → (spanW (pathAt n v) p).lo ≤ getI ts i ∧ getI ts i ≤ (spanW (pathAt n v) p).hi) : ∀ i, i ≤ r.length →
    ∃ a, walkedAt n p r [] ts start i = some a ∧ 0 ≤ a ∧ a ≤ 2880 ∧ a ≤ (posR n p (frm, start) r i).2 ∧ getI (arrivalsL n p spanLo frm start (-1)) (posR n p (frm, start) r i).1 ≤ a ∧ (ts = [] → a = (posR n p (frm, start) r i).2) := by
  have hv : never = 1073741824 := rfl
  have okl := (ways_ok hn hp (-1)).2
  obtain ⟨A1, A2⟩ := arr_spec (q := spanLo) (but := -1) okl hf hs
  intro i
  induction i with
  | zero => exact fun _ => ⟨start, rfl, hs.1, hs.2, Int.le_refl _, A2 frm start .refl, fun _ => rfl⟩
  | succ i ih =>
    intro hi
    obtain ⟨a, e1, e2, e3, e4, e5, e6⟩ := ih (by omega)
    obtain ⟨v, hvi⟩ : ∃ v, r[i]? = some v := ⟨_, List.getElem?_eq_getElem (by omega)⟩
    obtain ⟨w, hm, hwv, hpa, hwf, hle⟩ := h.at i v hvi
    have hps := posR_succ (n := n) (p := p) (s := (frm, start)) hvi
    obtain ⟨P, hP⟩ : ∃ P, P = posR n p (frm, start) r i := ⟨_, rfl⟩
    rw [← hP] at e4 e5 e6 hwf hle hps
    have hgo : goOn n p P v = (w.2.to, arriveF w.2.opens P.2 (spanW w.2 p).hi) := by unfold goOn; rw [hpa]
    rw [hps, hgo]
    have hg := hn.path w.2 (List.mem_of_getElem? (waysL_get hm))
    obtain ⟨sp1, sp2, sp3⟩ := span_ok hg hp
    obtain ⟨h1, h2, h3⟩ := arrive_enter (by omega) sp1 hle
    have hmo := enter_mono (opens := w.2.opens) e4 h2
    have hea := enter_ge (opens := w.2.opens) (t := a) (by omega)
    obtain ⟨d, hd⟩ : ∃ d, d = if i < ts.length then getI ts i else (spanW w.2 p).hi := ⟨_, rfl⟩
    have hdr : (spanW w.2 p).lo ≤ d ∧ d ≤ (spanW w.2 p).hi := by
      rw [hd]
      split
      · rename_i hlt
        have := hts i v hvi hlt
        rw [hpa] at this
        exact this
      · exact ⟨sp3, Int.le_refl _⟩
    have hwr : wr (enterF w.2.opens a + d) = enterF w.2.opens a + d := wr_small (by unfold okTime at sp1 sp2; omega)
    have hro : roundW n p [] ts i (getI r i) a = some (enterF w.2.opens a + d) := by
      unfold roundW
      have hgi : getI r i = v := by simp [getI, List.getD, hvi]
      rw [hgi, hpa]
      simp only [List.length_nil, Nat.not_lt_zero, if_false]
      rw [if_neg (by omega), ← hd, hwr]
    refine ⟨enterF w.2.opens a + d, ?_, ?_, ?_, ?_, ?_, fun hnil => ?_⟩
    · rw [walkedAt, e1]; exact hro
    · unfold okTime at sp2; omega
    · omega
    · show _ ≤ arriveF w.2.opens P.2 (spanW w.2 p).hi
      omega
    · show getI (arrivalsL n p spanLo frm start (-1)) w.2.to ≤ _
      have hw1 := (okl w hm).1
      rw [hwf] at hw1
      rcases A1 P.1 hw1.1 hw1.2 with hb | ⟨hb1, hb2, hb3⟩
      · omega
      · have hal : arriveF w.2.opens a (spanW w.2 p).lo = enterF w.2.opens a + (spanW w.2 p).lo := arrive_of e2 sp2 (by omega)
        have hmo2 := arrive_mono (opens := w.2.opens) hb1 e5 sp2
        have := A2 w.2.to _ (Reach.step w hb3 hm hwf (by show arriveF w.2.opens _ (spanW w.2 p).lo ≤ 2880; omega))
        change _ ≤ arriveF w.2.opens _ (spanW w.2 p).lo at this
        omega
    · have hee := e6 hnil
      show _ = arriveF w.2.opens P.2 (spanW w.2 p).hi
      rw [h1, hee, hd, hnil]
      simp

theorem walkedF_of {route waits times : List Int} {start a : Int} (h : walkedAt n p route waits times start route.length = some a) : walkedF n p route start waits times = a := by
  unfold walkedF; rw [h]; rfl
end
end Go.Ab
namespace Go.Ab
open Go.RowKit Go.Proofs
set_option maxHeartbeats 4000000
set_option maxRecDepth 20000
attribute [local irreducible] WalkL Walk

/-- The share of a span that is meant, in percent. -/
def shareOk (l : List Int) (i : Nat) : Bool := decide ((i : Int) < (l.length : Int)) && (decide (getI l i ≥ 0) && decide (getI l i ≤ 100))
def shareF (l : List Int) (i : Nat) : Int := if shareOk l i then getI l i else 0
def tmF (n : Net) (p : Party) (r l : List Int) (i : Nat) : Int :=
  wr ((spanW (pathAt n (getI r i)) p).lo + wr ((wr (wr ((spanW (pathAt n (getI r i)) p).hi - (spanW (pathAt n (getI r i)) p).lo) * shareF l i)).tdiv 100))
def tmL (n : Net) (p : Party) (r l : List Int) (k : Nat) : List Int := (List.range k).map (tmF n p r l)

theorem share_range (l : List Int) (i : Nat) : 0 ≤ shareF l i ∧ shareF l i ≤ 100 := by
  unfold shareF
  split
  · rename_i h
    simp only [shareOk, Bool.and_eq_true, decide_eq_true_eq] at h
    omega
  · omega

theorem tm_range {n : Net} {p : Party} {r l : List Int} {i : Nat} (h1 : okTime (spanW (pathAt n (getI r i)) p).hi) (h2 : okTime (spanW (pathAt n (getI r i)) p).lo) (h3 : (spanW (pathAt n (getI r i)) p).lo ≤ (spanW (pathAt n (getI r i)) p).hi) :
    (spanW (pathAt n (getI r i)) p).lo ≤ tmF n p r l i ∧ tmF n p r l i ≤ (spanW (pathAt n (getI r i)) p).hi := by
  unfold tmF
  obtain ⟨s, hs⟩ : ∃ s, s = shareF l i := ⟨_, rfl⟩
  have hr := share_range l i
  rw [← hs] at hr ⊢
  obtain ⟨a, ha⟩ : ∃ a, a = (spanW (pathAt n (getI r i)) p).lo := ⟨_, rfl⟩
  obtain ⟨b, hb⟩ : ∃ b, b = (spanW (pathAt n (getI r i)) p).hi := ⟨_, rfl⟩
  rw [← ha] at h2 h3 ⊢
  rw [← hb] at h1 h3 ⊢
  unfold okTime at h1 h2
  have w1 : wr (b - a) = b - a := wr_small (by omega)
  have m1 : 0 ≤ (b - a) * s := Int.mul_nonneg (by omega) hr.1
  have m2 : (b - a) * s ≤ (b - a) * 100 := Int.mul_le_mul_of_nonneg_left hr.2 (by omega)
  have w2 : wr ((b - a) * s) = (b - a) * s := wr_small (by omega)
  have q : ((b - a) * s).tdiv 100 = ((b - a) * s) / 100 := Int.tdiv_eq_ediv_of_nonneg m1
  have w3 : wr ((b - a) * s / 100) = (b - a) * s / 100 := wr_small (by omega)
  have w4 : wr (a + (b - a) * s / 100) = a + (b - a) * s / 100 := wr_small (by omega)
  rw [w1, w2, q, w3, w4]
  omega

theorem f4 (n : Net) (p : Party) (x : Trip) (l : List Int) (hs : n.Small) (hr : x.route.length < 2 ^ 30) (hl : l.length < 2 ^ 30) : Fn Try.prog 4 [.agg n.cells, .agg p.cells, .agg x.row, .sl (intRows l)] (.bool true) := by
  have h20 := f20 n p x hs
  have hll := intRows_len l
  refine fn_walk 228 Try.call4 Try.func4 rfl (by decide) fun J => ?_
  simp (maxSteps := 4000000) only [go_sem, St.start, Try.ntmps4, Try.results4, Net.cells, Party.cells, Trip.row]
  by_cases hfit : fitsB n p x = true
  · by_cases hl60 : (l.length : Int) > 60
    · have hl60' : decide ((l.length : Int) > 60) = true := by simpa using hl60
      repeat (first | refine walkL_seq ?_ | refine walkL_skip ?_ | refine walkL_block ?_ | (refine walkL_region fun K hK => ?_; simp (maxSteps := 4000000) only [go_sem, hfit, hll, hl60']; (repeat (first | (refine ⟨_, .lent (hf := h20) (hd := rfl) (hr := rfl), ?_⟩; simp (maxSteps := 4000000) only [go_sem, hfit, hll, hl60']) | (refine ⟨_, .given (hf := h20) (hd := rfl) (ha := rfl), ?_⟩; simp (maxSteps := 4000000) only [go_sem, hfit, hll, hl60']))); refine hK _ ?_; clear hK K) | refine walkL_nil ?_ | refine walkL_ret ?_ | refine walkL_exit ?_ | refine blockA_here ?_ | refine blockA_other rfl ?_ | refine blockA_ret ?_ | refine blockA_normal ?_ | refine thenA_ret ?_ | refine thenA_exit ?_ | refine thenA_normal ?_)
      refine walkL_true rfl ?_
      repeat (first | refine walkL_seq ?_ | refine walkL_skip ?_ | refine walkL_block ?_ | (refine walkL_region fun K hK => ?_; simp (maxSteps := 4000000) only [go_sem]; (repeat (first | (refine ⟨_, .lent (hf := f13) (hd := rfl) (hr := rfl), ?_⟩; simp (maxSteps := 4000000) only [go_sem]) | (refine ⟨_, .given (hf := f13) (hd := rfl) (ha := rfl), ?_⟩; simp (maxSteps := 4000000) only [go_sem]))); refine hK _ ?_; clear hK K) | refine walkL_nil ?_ | refine walkL_ret ?_ | refine walkL_exit ?_ | refine blockA_here ?_ | refine blockA_other rfl ?_ | refine blockA_ret ?_ | refine blockA_normal ?_ | refine thenA_ret ?_ | refine thenA_exit ?_ | refine thenA_normal ?_)
      simp (maxSteps := 4000000) only [go_sem]
    · have hl60' : decide ((l.length : Int) > 60) = false := by simpa using hl60
      have hf := fits_of hfit
      have hpl := hf.net.places
      have hfew := hf.few
      have ho1 : openF n p [x.frm, x.to] [x.start] = 0 := open_iff.2 ⟨hf.net, hf.party, by simpa using ⟨hf.frm, hf.to⟩, by simpa using hf.start⟩
      have ho2 : openF n p [x.frm] [x.start] = 0 := open_iff.2 ⟨hf.net, hf.party, by simpa using hf.frm, by simpa using hf.start⟩
      have h15 := f15' n p x.frm x.start x.to hs
      have h21 := f21 n p x.frm x.start hs
      have e21 : arriveL n p x.frm x.start = ((arrivalsL n p spanHi x.frm x.start (-1)).map told1, (arrivalsL n p spanLo x.frm x.start (-1)).map told1, 0) := by rw [arriveL, if_pos ho2]
      rw [e21] at h21
      have hroute := routeL_spec hf.net hf.party hf.frm hf.to hf.start
      have hnever := routeL_never (p := p) (start := x.start) ho1
      obtain ⟨A1, A2⟩ := arr_spec (q := spanHi) (but := -1) (ways_ok hf.net hf.party (-1)).1 hf.frm hf.start
      have hAt := A1 x.to hf.to.1 hf.to.2
      obtain ⟨B1, _⟩ := arr_spec (q := spanLo) (but := -1) (ways_ok hf.net hf.party (-1)).2 hf.frm hf.start
      have hBt := B1 x.to hf.to.1 hf.to.2
      have hwalk := fun (r ts : List Int) u (h : Trail n p x.frm x.start r x.to u) => walked_trail (ts := ts) hf.net hf.party hf.frm hf.start h
      obtain ⟨arr, harr⟩ : ∃ arr, arr = arrivalsL n p spanHi x.frm x.start (-1) := ⟨_, rfl⟩
      obtain ⟨best, hbest⟩ : ∃ best, best = arrivalsL n p spanLo x.frm x.start (-1) := ⟨_, rfl⟩
      have hal : arr.length = n.places.toNat := by rw [harr, arrivals_len]
      have hbl : best.length = n.places.toNat := by rw [hbest, arrivals_len]
      rw [← harr] at h21 hroute hnever hAt
      rw [← hbest] at h21 hBt hwalk
      have hto := hf.to
      have g1 : (intRows (arr.map told1))[x.to.toNat]? = some [.i (told1 (getI arr x.to))] := by
        rw [intRows_get hto.1 (by simp; omega), map_getI _ _ _ (by omega)]
      have g2 : (intRows (best.map told1))[x.to.toNat]? = some [.i (told1 (getI best x.to))] := by
        rw [intRows_get hto.1 (by simp; omega), map_getI _ _ _ (by omega)]
      have hlen : ((arr.length : Int) != n.places) = false := by simp; omega
      have hlenb : ((best.length : Int) != n.places) = false := by simp; omega
      have hv0 : never = 1073741824 := rfl
      by_cases hne : getI arr x.to = never
      · rw [hnever hne] at h15
        have ht1 : told1 (getI arr x.to) = -1 := by unfold told1; rw [if_pos hne]
        rw [ht1] at g1
        repeat (first | refine walkL_seq ?_ | refine walkL_skip ?_ | refine walkL_block ?_ | (refine walkL_region fun K hK => ?_; simp (maxSteps := 4000000) only [go_sem, hfit, hll, hl60']; (repeat (first | (refine ⟨_, .lent (hf := h20) (hd := rfl) (hr := rfl), ?_⟩; simp (maxSteps := 4000000) only [go_sem, hfit, hll, hl60']) | (refine ⟨_, .given (hf := h20) (hd := rfl) (ha := rfl), ?_⟩; simp (maxSteps := 4000000) only [go_sem, hfit, hll, hl60']))); refine hK _ ?_; clear hK K) | refine walkL_nil ?_ | refine walkL_ret ?_ | refine walkL_exit ?_ | refine blockA_here ?_ | refine blockA_other rfl ?_ | refine blockA_ret ?_ | refine blockA_normal ?_ | refine thenA_ret ?_ | refine thenA_exit ?_ | refine thenA_normal ?_)
        refine walkL_false rfl ?_
        repeat (first | refine walkL_seq ?_ | refine walkL_skip ?_ | refine walkL_block ?_ | (refine walkL_region fun K hK => ?_; simp (maxSteps := 4000000) only [go_sem, intRows_len, hlen, hlenb, g1, hto.1]; (repeat (first | (refine ⟨_, .lent (hf := h15) (hd := rfl) (hr := rfl), ?_⟩; simp (maxSteps := 4000000) only [go_sem, intRows_len, hlen, hlenb, g1, hto.1]) | (refine ⟨_, .lent (hf := h21) (hd := rfl) (hr := rfl), ?_⟩; simp (maxSteps := 4000000) only [go_sem, intRows_len, hlen, hlenb, g1, hto.1]) | (refine ⟨_, .given (hf := h15) (hd := rfl) (ha := rfl), ?_⟩; simp (maxSteps := 4000000) only [go_sem, intRows_len, hlen, hlenb, g1, hto.1]) | (refine ⟨_, .given (hf := h21) (hd := rfl) (ha := rfl), ?_⟩; simp (maxSteps := 4000000) only [go_sem, intRows_len, hlen, hlenb, g1, hto.1]))); refine hK _ ?_; clear hK K) | refine walkL_nil ?_ | refine walkL_ret ?_ | refine walkL_exit ?_ | refine blockA_here ?_ | refine blockA_other rfl ?_ | refine blockA_ret ?_ | refine blockA_normal ?_ | refine thenA_ret ?_ | refine thenA_exit ?_ | refine thenA_normal ?_)
        refine walkL_false rfl ?_
        repeat (first | refine walkL_seq ?_ | refine walkL_skip ?_ | refine walkL_block ?_ | (refine walkL_region fun K hK => ?_; simp (maxSteps := 4000000) only [go_sem]; refine hK _ ?_; clear hK K) | refine walkL_nil ?_ | refine walkL_ret ?_ | refine walkL_exit ?_ | refine blockA_here ?_ | refine blockA_other rfl ?_ | refine blockA_ret ?_ | refine blockA_normal ?_ | refine thenA_ret ?_ | refine thenA_exit ?_ | refine thenA_normal ?_)
        refine walkL_true rfl ?_
        repeat (first | refine walkL_seq ?_ | refine walkL_skip ?_ | refine walkL_block ?_ | (refine walkL_region fun K hK => ?_; simp (maxSteps := 4000000) only [go_sem]; (repeat (first | (refine ⟨_, .lent (hf := f13) (hd := rfl) (hr := rfl), ?_⟩; simp (maxSteps := 4000000) only [go_sem]) | (refine ⟨_, .given (hf := f13) (hd := rfl) (ha := rfl), ?_⟩; simp (maxSteps := 4000000) only [go_sem]))); refine hK _ ?_; clear hK K) | refine walkL_nil ?_ | refine walkL_ret ?_ | refine walkL_exit ?_ | refine blockA_here ?_ | refine blockA_other rfl ?_ | refine blockA_ret ?_ | refine blockA_normal ?_ | refine thenA_ret ?_ | refine thenA_exit ?_ | refine thenA_normal ?_)
        simp (maxSteps := 4000000) only [go_sem]
      · obtain ⟨r, hr1, hr2, hr3, _, _⟩ := hroute hne
        rw [hr1] at h15
        have ht1 : told1 (getI arr x.to) = getI arr x.to := by unfold told1; rw [if_neg hne]
        rw [ht1] at g1
        rcases hAt with hAt | ⟨hA1, hA2, _⟩
        · exact absurd hAt hne
        obtain ⟨av, hav⟩ : ∃ av, av = getI arr x.to := ⟨_, rfl⟩
        rw [← hav] at g1 h15 hr3 hA1 hA2
        have hrlen : r.length < 6 := by omega
        have c0 : decide (av ≥ 0) = true := by simpa using hA1
        have c1 : (av != av) = false := by simp
        have c2 : decide ((r.length : Int) > 20) = false := by simp; omega
        have hro : isRouteB n p x.frm r = true := by
          unfold isRouteB
          rw [hr3.walkR]
          simp; omega
        have h22 := f22 n p r x.frm hs.paths (by omega)
        rw [hro] at h22
        have hon := isRoute_on hro
        have h23 := f23 n p r [] [] x.start hs hon (by omega) (by simp) (by simp)
        have hw0 : walkedF n p r x.start [] [] = av := by
          obtain ⟨a, e1, _, _, _, _, e6⟩ := hwalk r [] av hr3 (fun i v _ h => by simp at h) r.length (Nat.le_refl _)
          rw [walkedF_of e1, e6 rfl, hr3.last]
        rw [hw0] at h23
        repeat (first | refine walkL_seq ?_ | refine walkL_skip ?_ | refine walkL_block ?_ | (refine walkL_region fun K hK => ?_; simp (maxSteps := 4000000) only [go_sem, hfit, hll, hl60']; (repeat (first | (refine ⟨_, .lent (hf := h20) (hd := rfl) (hr := rfl), ?_⟩; simp (maxSteps := 4000000) only [go_sem, hfit, hll, hl60']) | (refine ⟨_, .given (hf := h20) (hd := rfl) (ha := rfl), ?_⟩; simp (maxSteps := 4000000) only [go_sem, hfit, hll, hl60']))); refine hK _ ?_; clear hK K) | refine walkL_nil ?_ | refine walkL_ret ?_ | refine walkL_exit ?_ | refine blockA_here ?_ | refine blockA_other rfl ?_ | refine blockA_ret ?_ | refine blockA_normal ?_ | refine thenA_ret ?_ | refine thenA_exit ?_ | refine thenA_normal ?_)
        refine walkL_false rfl ?_
        repeat (first | refine walkL_seq ?_ | refine walkL_skip ?_ | refine walkL_block ?_ | (refine walkL_region fun K hK => ?_; simp (maxSteps := 4000000) only [go_sem, intRows_len, hlen, hlenb, g1, hto.1, c0]; (repeat (first | (refine ⟨_, .lent (hf := h15) (hd := rfl) (hr := rfl), ?_⟩; simp (maxSteps := 4000000) only [go_sem, intRows_len, hlen, hlenb, g1, hto.1, c0]) | (refine ⟨_, .lent (hf := h21) (hd := rfl) (hr := rfl), ?_⟩; simp (maxSteps := 4000000) only [go_sem, intRows_len, hlen, hlenb, g1, hto.1, c0]) | (refine ⟨_, .given (hf := h15) (hd := rfl) (ha := rfl), ?_⟩; simp (maxSteps := 4000000) only [go_sem, intRows_len, hlen, hlenb, g1, hto.1, c0]) | (refine ⟨_, .given (hf := h21) (hd := rfl) (ha := rfl), ?_⟩; simp (maxSteps := 4000000) only [go_sem, intRows_len, hlen, hlenb, g1, hto.1, c0]))); refine hK _ ?_; clear hK K) | refine walkL_nil ?_ | refine walkL_ret ?_ | refine walkL_exit ?_ | refine blockA_here ?_ | refine blockA_other rfl ?_ | refine blockA_ret ?_ | refine blockA_normal ?_ | refine thenA_ret ?_ | refine thenA_exit ?_ | refine thenA_normal ?_)
        refine walkL_false rfl ?_
        repeat (first | refine walkL_seq ?_ | refine walkL_skip ?_ | refine walkL_block ?_ | (refine walkL_region fun K hK => ?_; simp (maxSteps := 4000000) only [go_sem]; refine hK _ ?_; clear hK K) | refine walkL_nil ?_ | refine walkL_ret ?_ | refine walkL_exit ?_ | refine blockA_here ?_ | refine blockA_other rfl ?_ | refine blockA_ret ?_ | refine blockA_normal ?_ | refine thenA_ret ?_ | refine thenA_exit ?_ | refine thenA_normal ?_)
        refine walkL_false rfl ?_
        repeat (first | refine walkL_seq ?_ | refine walkL_skip ?_ | refine walkL_block ?_ | (refine walkL_region fun K hK => ?_; simp (maxSteps := 4000000) only [go_sem, intRows_len, g1, hto.1, c1, c2]; (repeat (first | (refine ⟨_, .lent (hf := h22) (hd := rfl) (hr := rfl), ?_⟩; simp (maxSteps := 4000000) only [go_sem, intRows_len, g1, hto.1, c1, c2]) | (refine ⟨_, .lent (hf := h23) (hd := rfl) (hr := rfl), ?_⟩; simp (maxSteps := 4000000) only [go_sem, intRows_len, g1, hto.1, c1, c2]) | (refine ⟨_, .given (hf := h22) (hd := rfl) (ha := rfl), ?_⟩; simp (maxSteps := 4000000) only [go_sem, intRows_len, g1, hto.1, c1, c2]) | (refine ⟨_, .given (hf := h23) (hd := rfl) (ha := rfl), ?_⟩; simp (maxSteps := 4000000) only [go_sem, intRows_len, g1, hto.1, c1, c2]))); refine hK _ ?_; clear hK K) | refine walkL_nil ?_ | refine walkL_ret ?_ | refine walkL_exit ?_ | refine blockA_here ?_ | refine blockA_other rfl ?_ | refine blockA_ret ?_ | refine blockA_normal ?_ | refine thenA_ret ?_ | refine thenA_exit ?_ | refine thenA_normal ?_)
        refine walkL_false rfl ?_
        repeat (first | refine walkL_seq ?_ | refine walkL_skip ?_ | refine walkL_block ?_ | (refine walkL_region fun K hK => ?_; simp (maxSteps := 4000000) only [go_sem]; refine hK _ ?_; clear hK K) | refine walkL_nil ?_ | refine walkL_ret ?_ | refine walkL_exit ?_ | refine blockA_here ?_ | refine blockA_other rfl ?_ | refine blockA_ret ?_ | refine blockA_normal ?_ | refine thenA_ret ?_ | refine thenA_exit ?_ | refine thenA_normal ?_)
        refine walkL_loopS (fun (i : Nat) => [(16, .d (.i i)), (15, .own 174), (17, .undef), (18, .undef)]) (fun i => [(174, some (.arr 3 1 (intRows (tmL n p r l i))))]) (fun i => i ≤ r.length) (fun i => r.length - i) 0 ?_ (Nat.zero_le _) ?_
        · simp (maxSteps := 4000000) only [go_sem]
          refine weak_of [174] ?_ ?_ rfl rfl <;> simp [lessT, lessM, lessB, AV.less, tmL, intRows]
        · intro i hi
          simp (maxSteps := 4000000) only [go_sem]
          repeat (first | refine walkL_seq ?_ | refine walkL_skip ?_ | refine walkL_block ?_ | (refine walkL_region fun K hK => ?_; simp (maxSteps := 4000000) only [go_sem, intRows_len]; refine hK _ ?_; clear hK K) | refine walkL_nil ?_ | refine walkL_ret ?_ | refine walkL_exit ?_ | refine blockA_here ?_ | refine blockA_other rfl ?_ | refine blockA_ret ?_ | refine blockA_normal ?_ | refine thenA_ret ?_ | refine thenA_exit ?_ | refine thenA_normal ?_)
          refine walkL_cond rfl (fun hb => ?_) (fun hb => ?_)
          · have hlt : i < r.length := by simpa using hb
            have hw : IntKind.i64.wrap ((i : Int) + 1) = ((i + 1 : Nat) : Int) := by rw [wr_small (by omega)]; simp
            obtain ⟨v, hv⟩ : ∃ v, r[i]? = some v := ⟨_, List.getElem?_eq_getElem hlt⟩
            have g3 := intRows_at hv
            have hgi : getI r i = v := by simp [getI, List.getD, hv]
            have hvo := hon v (List.mem_of_getElem? hv)
            obtain ⟨hx, hxm⟩ := pathAt_mem hvo
            obtain ⟨v, rfl⟩ : ∃ j : Nat, v = (j : Int) := ⟨v.toNat, by have := hvo.1; omega⟩
            rw [Int.toNat_natCast] at hx
            have h24 := f24 n p v (pathAt n v) hx
            rw [Span.row] at h24
            have htm : tmF n p r l i = wr ((spanW (pathAt n v) p).lo + wr ((wr (wr ((spanW (pathAt n v) p).hi - (spanW (pathAt n v) p).lo) * shareF l i)).tdiv 100)) := by unfold tmF; rw [hgi]
            have hnx : tmL n p r l (i + 1) = tmL n p r l i ++ [tmF n p r l i] := by simp [tmL, List.range_succ]
            have htl : (tmL n p r l i).length + 1 ≤ 549755813888 := by simp [tmL]; omega
            obtain ⟨sp, hsp⟩ : ∃ sp, sp = spanW (pathAt n v) p := ⟨_, rfl⟩
            rw [← hsp] at h24 htm
            obtain ⟨tm, htm0⟩ : ∃ tm, tm = tmF n p r l i := ⟨_, rfl⟩
            rw [← htm0] at htm hnx
            obtain ⟨sh, hsh0⟩ : ∃ sh, sh = shareF l i := ⟨_, rfl⟩
            rw [← hsh0] at htm
            have gl : decide ((i : Int) < (l.length : Int)) = true → (intRows l)[i]? = some [.i (getI l i)] := fun h => by
              have h1 : i < l.length := by simpa using h
              obtain ⟨s, hs1⟩ : ∃ s, l[i]? = some s := ⟨_, List.getElem?_eq_getElem h1⟩
              rw [intRows_at hs1]
              simp [getI, List.getD, hs1]
            obtain ⟨s, hs0⟩ : ∃ s, s = getI l i := ⟨_, rfl⟩
            rw [← hs0] at gl
            have hok : shareOk l i = (decide ((i : Int) < (l.length : Int)) && (decide (s ≥ 0) && decide (s ≤ 100))) := by unfold shareOk; rw [hs0]
            obtain ⟨b0, hb0⟩ : ∃ b0, b0 = decide ((i : Int) < (l.length : Int)) := ⟨_, rfl⟩
            rw [← hb0] at gl hok
            repeat (first | refine walkL_seq ?_ | refine walkL_skip ?_ | refine walkL_block ?_ | (refine walkL_region fun K hK => ?_; simp (maxSteps := 4000000) only [go_sem, intRows_len]; refine hK _ ?_; clear hK K) | refine walkL_nil ?_ | refine walkL_ret ?_ | refine walkL_exit ?_ | refine blockA_here ?_ | refine blockA_other rfl ?_ | refine blockA_ret ?_ | refine blockA_normal ?_ | refine thenA_ret ?_ | refine thenA_exit ?_ | refine thenA_normal ?_)
            refine walkL_drawn (by kernel_rfl) (by kernel_rfl) fun K hK => ?_
            simp (maxSteps := 4000000) only [go_sem, g3]
            refine ⟨_, .fn (hf := h24) (hd := rfl) (hr := .inl rfl), ?_⟩
            simp (maxSteps := 4000000) only [go_sem]
            refine ⟨by kernel_rfl, hK _ ?_⟩
            clear hK K
            repeat (first | refine walkL_seq ?_ | refine walkL_skip ?_ | refine walkL_block ?_ | (refine walkL_region fun K hK => ?_; simp (maxSteps := 4000000) only [go_sem]; refine hK _ ?_; clear hK K) | refine walkL_nil ?_ | refine walkL_ret ?_ | refine walkL_exit ?_ | refine blockA_here ?_ | refine blockA_other rfl ?_ | refine blockA_ret ?_ | refine blockA_normal ?_ | refine thenA_ret ?_ | refine thenA_exit ?_ | refine thenA_normal ?_)
            refine walkL_meetS [(156, .d (.bool (shareOk l i)))] [] ?_ ?_
            · refine walkL_region fun K hK => ?_
              simp (maxSteps := 4000000) only [go_sem, intRows_len, gl, ← hb0]
              by_cases ho0 : (b0) = true
              · simp (maxSteps := 4000000) only [go_sem, intRows_len, gl, ← hb0, ho0]
                by_cases ho1 : (decide (s ≥ 0)) = true
                · simp (maxSteps := 4000000) only [go_sem, intRows_len, gl, ← hb0, ho0, ho1]
                  refine hK _ ?_
                  clear hK K
                  refine walkL_nil ?_
                  refine thenA_normal ?_
                  refine ⟨rfl, ?_⟩
                  rw [show (shareOk l i) = (decide (s ≤ 100)) from by simp [hok, ho0, ho1]]
                  simp (maxSteps := 4000000) only [go_sem]
                  refine weak_of [] ?_ ?_ rfl rfl <;> simp [lessT, lessM, lessB, AV.less]
                · simp (maxSteps := 4000000) only [go_sem, intRows_len, gl, ← hb0, ho0, ho1]
                  refine hK _ ?_
                  clear hK K
                  refine walkL_nil ?_
                  refine thenA_normal ?_
                  refine ⟨rfl, ?_⟩
                  rw [show (shareOk l i) = (false) from by simp [hok, ho0, ho1]]
                  simp (maxSteps := 4000000) only [go_sem]
                  refine weak_of [] ?_ ?_ rfl rfl <;> simp [lessT, lessM, lessB, AV.less]
              · simp (maxSteps := 4000000) only [go_sem, intRows_len, gl, ← hb0, ho0]
                refine hK _ ?_
                clear hK K
                refine walkL_nil ?_
                refine thenA_normal ?_
                refine ⟨rfl, ?_⟩
                rw [show (shareOk l i) = (false) from by simp [hok, ho0]]
                simp (maxSteps := 4000000) only [go_sem]
                refine weak_of [] ?_ ?_ rfl rfl <;> simp [lessT, lessM, lessB, AV.less]
            simp (maxSteps := 4000000) only [go_sem]
            refine walkL_meetS [(18, .d (.i sh))] [] ?_ ?_
            · refine walkL_cond rfl (fun hc => ?_) (fun hc => ?_)
              · have hb1 : b0 = true := by rw [hok] at hc; exact (Bool.and_eq_true_iff.1 hc).1
                have hss : sh = s := by rw [hsh0]; unfold shareF; rw [if_pos hc, hs0]
                repeat (first | refine walkL_seq ?_ | refine walkL_skip ?_ | refine walkL_block ?_ | (refine walkL_region fun K hK => ?_; simp (maxSteps := 4000000) only [go_sem, gl hb1]; refine hK _ ?_; clear hK K) | refine walkL_nil ?_ | refine walkL_ret ?_ | refine walkL_exit ?_ | refine blockA_here ?_ | refine blockA_other rfl ?_ | refine blockA_ret ?_ | refine blockA_normal ?_ | refine thenA_ret ?_ | refine thenA_exit ?_ | refine thenA_normal ?_)
                refine ⟨rfl, ?_⟩
                rw [hss]
                simp (maxSteps := 4000000) only [go_sem]
                refine weak_of [] ?_ ?_ rfl rfl <;> simp [lessT, lessM, lessB, AV.less]
              · have hss : sh = 0 := by rw [hsh0]; unfold shareF; rw [if_neg (by rw [hc]; simp)]
                repeat (first | refine walkL_seq ?_ | refine walkL_skip ?_ | refine walkL_block ?_ | (refine walkL_region fun K hK => ?_; simp (maxSteps := 4000000) only [go_sem]; refine hK _ ?_; clear hK K) | refine walkL_nil ?_ | refine walkL_ret ?_ | refine walkL_exit ?_ | refine blockA_here ?_ | refine blockA_other rfl ?_ | refine blockA_ret ?_ | refine blockA_normal ?_ | refine thenA_ret ?_ | refine thenA_exit ?_ | refine thenA_normal ?_)
                refine ⟨rfl, ?_⟩
                rw [hss]
                simp (maxSteps := 4000000) only [go_sem]
                refine weak_of [] ?_ ?_ rfl rfl <;> simp [lessT, lessM, lessB, AV.less]
            simp (maxSteps := 4000000) only [go_sem]
            have htm' : tm = IntKind.i64.wrap (sp.lo + IntKind.i64.wrap ((IntKind.i64.wrap (IntKind.i64.wrap (sp.hi - sp.lo) * sh)).tdiv 100)) := htm
            repeat (first | refine walkL_seq ?_ | refine walkL_skip ?_ | refine walkL_block ?_ | (refine walkL_region fun K hK => ?_; simp (maxSteps := 4000000) only [go_sem, intRows_len, htl, ← htm', hw]; refine hK _ ?_; clear hK K) | refine walkL_nil ?_ | refine walkL_ret ?_ | refine walkL_exit ?_ | refine blockA_here ?_ | refine blockA_other rfl ?_ | refine blockA_ret ?_ | refine blockA_normal ?_ | refine thenA_ret ?_ | refine thenA_exit ?_ | refine thenA_normal ?_)
            refine ⟨rfl, i + 1, ?_, hlt, by omega⟩
            rw [hnx, ← intRows_append]
            refine weak_of [] ?_ ?_ rfl rfl <;> simp [lessT, lessM, lessB, AV.less]
            first | done | rfl
          · have he : i = r.length := by (have : ¬ i < r.length := by simpa using hb); omega
            subst he
            have htl : (tmL n p r l r.length).length = r.length := by simp [tmL]
            have h23t := f23 n p r [] (tmL n p r l r.length) x.start hs hon (by omega) (by simp) (by omega)
            have hts : ∀ (i : Nat) v, r[i]? = some v → i < (tmL n p r l r.length).length → (spanW (pathAt n v) p).lo ≤ getI (tmL n p r l r.length) i ∧ getI (tmL n p r l r.length) i ≤ (spanW (pathAt n v) p).hi := by
              intro i v hv hi
              obtain ⟨hx, hxm⟩ := pathAt_mem (hon v (List.mem_of_getElem? hv))
              have hgi : getI r i = v := by simp [getI, List.getD, hv]
              have hgt : getI (tmL n p r l r.length) i = tmF n p r l i := by simp [getI, List.getD, tmL, show i < r.length by omega]
              obtain ⟨s1, s2, s3⟩ := span_ok (hf.net.path _ hxm) hf.party
              have := tm_range (n := n) (p := p) (r := r) (l := l) (i := i) (by rw [hgi]; exact s1) (by rw [hgi]; exact s2) (by rw [hgi]; exact s3)
              rw [hgi] at this
              rw [hgt]
              exact this
            obtain ⟨at1, e1, e2, e3, e4, e5, _⟩ := hwalk r (tmL n p r l r.length) av hr3 hts r.length (Nat.le_refl _)
            rw [walkedF_of e1] at h23t
            rw [hr3.last] at e4 e5
            dsimp only at e4 e5
            obtain ⟨bv, hbv⟩ : ∃ bv, bv = getI best x.to := ⟨_, rfl⟩
            rw [← hbv] at e5 hBt
            have hb1 : 0 ≤ bv := by rcases hBt with h | h <;> omega
            have ht2 : told1 (getI best x.to) = bv := by unfold told1; rw [← hbv, if_neg (by omega)]
            rw [ht2] at g2
            obtain ⟨pos, hpos⟩ : ∃ pos, pos = posR n p (x.frm, x.start) r := ⟨_, rfl⟩
            have hposs : ∀ (i : Nat) v, r[i]? = some v → (pos (i + 1)).1 = (pathAt n v).to := fun i v h => by rw [hpos, posR_succ h]; rfl
            have hpos0 : (pos 0).1 = x.frm := by rw [hpos]; rfl
            have hpose : (pos r.length).1 = x.to := by rw [hpos, hr3.last]
            repeat (first | refine walkL_seq ?_ | refine walkL_skip ?_ | refine walkL_block ?_ | (refine walkL_region fun K hK => ?_; simp (maxSteps := 4000000) only [go_sem]; (repeat (first | (refine ⟨_, .lent (hf := h23t) (hd := rfl) (hr := rfl), ?_⟩; simp (maxSteps := 4000000) only [go_sem]) | (refine ⟨_, .given (hf := h23t) (hd := rfl) (ha := rfl), ?_⟩; simp (maxSteps := 4000000) only [go_sem]))); refine hK _ ?_; clear hK K) | refine walkL_nil ?_ | refine walkL_ret ?_ | refine walkL_exit ?_ | refine blockA_here ?_ | refine blockA_other rfl ?_ | refine blockA_ret ?_ | refine blockA_normal ?_ | refine thenA_ret ?_ | refine thenA_exit ?_ | refine thenA_normal ?_)
            refine walkL_loopS (fun (i : Nat) => [(21, .d (.i i)), (20, .d (.i (pos i).1))]) (fun _ => []) (fun i => i ≤ r.length) (fun i => r.length - i) 0 ?_ (Nat.zero_le _) ?_
            · simp (maxSteps := 4000000) only [go_sem, hpos0]
              refine weak_of [] ?_ ?_ rfl rfl <;> simp [lessT, lessM, lessB, AV.less]
            · intro i hi
              simp (maxSteps := 4000000) only [go_sem]
              repeat (first | refine walkL_seq ?_ | refine walkL_skip ?_ | refine walkL_block ?_ | (refine walkL_region fun K hK => ?_; simp (maxSteps := 4000000) only [go_sem, intRows_len]; refine hK _ ?_; clear hK K) | refine walkL_nil ?_ | refine walkL_ret ?_ | refine walkL_exit ?_ | refine blockA_here ?_ | refine blockA_other rfl ?_ | refine blockA_ret ?_ | refine blockA_normal ?_ | refine thenA_ret ?_ | refine thenA_exit ?_ | refine thenA_normal ?_)
              refine walkL_cond rfl (fun hb => ?_) (fun hb => ?_)
              · have hlt : i < r.length := by simpa using hb
                have hw : IntKind.i64.wrap ((i : Int) + 1) = ((i + 1 : Nat) : Int) := by rw [wr_small (by omega)]; simp
                obtain ⟨v, hv⟩ : ∃ v, r[i]? = some v := ⟨_, List.getElem?_eq_getElem hlt⟩
                have g3 := intRows_at hv
                have hvo := hon v (List.mem_of_getElem? hv)
                obtain ⟨hx, hxm⟩ := pathAt_mem hvo
                obtain ⟨v, rfl⟩ : ∃ j : Nat, v = (j : Int) := ⟨v.toNat, by have := hvo.1; omega⟩
                rw [Int.toNat_natCast] at hx
                have hps := hposs i _ hv
                obtain ⟨y, hy⟩ : ∃ y, y = pathAt n v := ⟨_, rfl⟩
                rw [← hy] at hx hps
                repeat (first | refine walkL_seq ?_ | refine walkL_skip ?_ | refine walkL_block ?_ | (refine walkL_region fun K hK => ?_; simp (maxSteps := 4000000) only [go_sem]; refine hK _ ?_; clear hK K) | refine walkL_nil ?_ | refine walkL_ret ?_ | refine walkL_exit ?_ | refine blockA_here ?_ | refine blockA_other rfl ?_ | refine blockA_ret ?_ | refine blockA_normal ?_ | refine thenA_ret ?_ | refine thenA_exit ?_ | refine thenA_normal ?_)
                refine walkL_drawn (by kernel_rfl) (by kernel_rfl) fun K hK => ?_
                simp (maxSteps := 4000000) only [go_sem, g3, hx, List.getElem?_map, Path.row]
                refine ⟨by kernel_rfl, hK _ ?_⟩
                clear hK K
                repeat (first | refine walkL_seq ?_ | refine walkL_skip ?_ | refine walkL_block ?_ | (refine walkL_region fun K hK => ?_; simp (maxSteps := 4000000) only [go_sem, hw]; refine hK _ ?_; clear hK K) | refine walkL_nil ?_ | refine walkL_ret ?_ | refine walkL_exit ?_ | refine blockA_here ?_ | refine blockA_other rfl ?_ | refine blockA_ret ?_ | refine blockA_normal ?_ | refine thenA_ret ?_ | refine thenA_exit ?_ | refine thenA_normal ?_)
                refine ⟨rfl, i + 1, ?_, hlt, by omega⟩
                rw [hps]
                refine weak_of [] ?_ ?_ rfl rfl <;> simp [lessT, lessM, lessB, AV.less]
              · have he : i = r.length := by (have : ¬ i < r.length := by simpa using hb); omega
                subst he
                have d1 : (x.to == x.to) = true := by simp
                have d2 : decide (at1 ≤ av) = true := by simpa using e4
                have d3 : decide (bv ≥ 0) = true := by simpa using hb1
                have d4 : decide (at1 ≥ bv) = true := by simpa using e5
                rw [hpose]
                repeat (first | refine walkL_seq ?_ | refine walkL_skip ?_ | refine walkL_block ?_ | (refine walkL_region fun K hK => ?_; simp (maxSteps := 4000000) only [go_sem, d1, d2, d3, d4, g2, hto.1]; (repeat (first | (refine ⟨_, .lent (hf := f13) (hd := rfl) (hr := rfl), ?_⟩; simp (maxSteps := 4000000) only [go_sem, d1, d2, d3, d4, g2, hto.1]) | (refine ⟨_, .given (hf := f13) (hd := rfl) (ha := rfl), ?_⟩; simp (maxSteps := 4000000) only [go_sem, d1, d2, d3, d4, g2, hto.1]))); refine hK _ ?_; clear hK K) | refine walkL_nil ?_ | refine walkL_ret ?_ | refine walkL_exit ?_ | refine blockA_here ?_ | refine blockA_other rfl ?_ | refine blockA_ret ?_ | refine blockA_normal ?_ | refine thenA_ret ?_ | refine thenA_exit ?_ | refine thenA_normal ?_)
                simp (maxSteps := 4000000) only [go_sem]
  · have hfit' : fitsB n p x = false := by simpa using hfit
    repeat (first | refine walkL_seq ?_ | refine walkL_skip ?_ | refine walkL_block ?_ | (refine walkL_region fun K hK => ?_; simp (maxSteps := 4000000) only [go_sem, hfit']; (repeat (first | (refine ⟨_, .lent (hf := h20) (hd := rfl) (hr := rfl), ?_⟩; simp (maxSteps := 4000000) only [go_sem, hfit']) | (refine ⟨_, .given (hf := h20) (hd := rfl) (ha := rfl), ?_⟩; simp (maxSteps := 4000000) only [go_sem, hfit']))); refine hK _ ?_; clear hK K) | refine walkL_nil ?_ | refine walkL_ret ?_ | refine walkL_exit ?_ | refine blockA_here ?_ | refine blockA_other rfl ?_ | refine blockA_ret ?_ | refine blockA_normal ?_ | refine thenA_ret ?_ | refine thenA_exit ?_ | refine thenA_normal ?_)
    refine walkL_true rfl ?_
    repeat (first | refine walkL_seq ?_ | refine walkL_skip ?_ | refine walkL_block ?_ | (refine walkL_region fun K hK => ?_; simp (maxSteps := 4000000) only [go_sem]; (repeat (first | (refine ⟨_, .lent (hf := f13) (hd := rfl) (hr := rfl), ?_⟩; simp (maxSteps := 4000000) only [go_sem]) | (refine ⟨_, .given (hf := f13) (hd := rfl) (ha := rfl), ?_⟩; simp (maxSteps := 4000000) only [go_sem]))); refine hK _ ?_; clear hK K) | refine walkL_nil ?_ | refine walkL_ret ?_ | refine walkL_exit ?_ | refine blockA_here ?_ | refine blockA_other rfl ?_ | refine blockA_ret ?_ | refine blockA_normal ?_ | refine thenA_ret ?_ | refine thenA_exit ?_ | refine thenA_normal ?_)
    simp (maxSteps := 4000000) only [go_sem]
end Go.Ab
/- Plain laws of layer 1: no route is better than the lowest arrival. -/
namespace Go.Ab
open Go.RowKit Go.Proofs
set_option maxHeartbeats 1000000

section
variable {n : Net} {p : Party}

theorem onB_way {f i z : Int} (h : onB n p f i = some z) : ∃ w ∈ waysL n p (-1), (w.1 : Int) = i ∧ pathAt n i = w.2 ∧ w.2.frm = f ∧ w.2.to = z := by
  unfold onB at h
  split at h
  · rename_i hw
    obtain ⟨h1, h2⟩ := within_iff.1 hw
    split at h
    · rename_i x hx
      split at h
      · rename_i hc
        cases h
        have hm : (i.toNat, x) ∈ waysL n p (-1) := waysL_iff.2 ⟨hx, hc.1, by show (i.toNat : Int) ≠ -1; omega⟩
        have e : ((i.toNat : Nat) : Int) = i := by omega
        exact ⟨(i.toNat, x), hm, e, by have := pathAt_way hm; rw [← e]; exact this, hc.2, rfl⟩
      · cases h
    · cases h
  · cases h

theorem walkR_cons {f a : Int} {l : List Int} : walkR n p f (a :: l) = (onB n p f a).bind fun g => walkR n p g l := by
  unfold walkR
  rw [List.foldl_cons]
  show List.foldl _ (onB n p f a) l = _
  cases onB n p f a with
  | none => exact walkR_none n p l
  | some g => rfl

theorem walkR_at : ∀ {l : List Int} {f z t : Int}, walkR n p f l = some z → (∀ (i : Nat) v, l[i]? = some v → ∃ w ∈ waysL n p (-1), (w.1 : Int) = v ∧ pathAt n v = w.2 ∧ w.2.frm = (posR n p (f, t) l i).1) ∧ (posR n p (f, t) l l.length).1 = z
  | [], f, z, t, h => by
    cases h
    exact ⟨fun i v hv => by simp at hv, rfl⟩
  | a :: l, f, z, t, h => by
    rw [walkR_cons] at h
    cases ho : onB n p f a with
    | none => rw [ho] at h; cases h
    | some g =>
      rw [ho] at h
      obtain ⟨w, hm, h1, h2, h3, h4⟩ := onB_way ho
      have hg : goOn n p (f, t) a = (g, arriveF w.2.opens t (spanW w.2 p).hi) := by unfold goOn; rw [h2, h4]
      obtain ⟨i1, i2⟩ := walkR_at (t := arriveF w.2.opens t (spanW w.2 p).hi) (show walkR n p g l = some z from h)
      refine ⟨fun i v hv => ?_, ?_⟩
      · cases i with
        | zero =>
          simp at hv; subst hv
          exact ⟨w, hm, h1, h2, h3⟩
        | succ i =>
          rw [posR_cons, hg]
          exact i1 i v (by simpa using hv)
      · rw [List.length_cons, posR_cons, hg]
        exact i2

/-- Whoever walks a route, and waits somewhere, is not sooner at a place than the lowest arrival. -/
theorem walked_best (hn : n.Good) (hp : p.Good) {frm start z : Int} {r waits ts : List Int} {high : Bool} (hf : 0 ≤ frm ∧ frm < n.places) (hs : 0 ≤ start ∧ start ≤ 2880) (h : walkR n p frm r = some z) (hl : r.length ≤ 30)
    (hw : ∀ v ∈ waits, 0 ≤ v ∧ v ≤ 2880) (hts : ∀ (i : Nat) v, r[i]? = some v → (if i < ts.length then getI ts i else (spanW (pathAt n v) p).hi) = endOf high (spanW (pathAt n v) p)) : ∀ i a, i ≤ r.length → walkedAt n p r waits ts start i = some a →
    0 ≤ a ∧ a < 1073750000 ∧ (a ≤ 2880 → getI (arrivalsL n p (endOf high) frm start (-1)) (posR n p (frm, start) r i).1 ≤ a) := by
  have hv : never = 1073741824 := rfl
  have okl := ways_end hn hp (-1) high
  obtain ⟨A1, A2⟩ := arr_spec (q := endOf high) (but := -1) okl hf hs
  have hat := (walkR_at (t := start) h).1
  intro i
  induction i with
  | zero =>
    intro a _ ha
    cases ha
    exact ⟨hs.1, by omega, fun _ => A2 frm start .refl⟩
  | succ i ih =>
    intro a hi ha
    rw [walkedAt] at ha
    cases h0 : walkedAt n p r waits ts start i with
    | none => rw [h0] at ha; cases ha
    | some b =>
      rw [h0] at ha
      obtain ⟨b1, b2, b3⟩ := ih b (by omega) h0
      obtain ⟨v, hvi⟩ : ∃ v, r[i]? = some v := ⟨_, List.getElem?_eq_getElem (by omega)⟩
      obtain ⟨w, hm, hwv, hpa, hwf⟩ := hat i v hvi
      have hps := posR_succ (n := n) (p := p) (s := (frm, start)) hvi
      have hg := hn.path w.2 (List.mem_of_getElem? (waysL_get hm))
      obtain ⟨sp1, sp2, sp3⟩ := span_ok hg hp
      have hgi : getI r i = v := by simp [getI, List.getD, hvi]
      change roundW n p waits ts i (getI r i) b = some a at ha
      unfold roundW at ha
      rw [hgi, hts i v hvi, hpa] at ha
      obtain ⟨c, hc⟩ : ∃ c, c = if i < waits.length then wr (b + getI waits i) else b := ⟨_, rfl⟩
      rw [← hc] at ha
      have hcb : b ≤ c ∧ 0 ≤ c := by
        rw [hc]
        split
        · rename_i hlt
          have hmem : getI waits i ∈ waits := by
            have : getI waits i = waits[i] := by simp [getI, List.getD, hlt]
            rw [this]; exact List.getElem_mem _
          have := hw _ hmem
          have hwq : wr (b + getI waits i) = b + getI waits i := wr_small (by omega)
          rw [hwq]
          omega
        · omega
      have ed : okTime (endOf high (spanW w.2 p)) := by cases high; exact sp2; exact sp1
      obtain ⟨d, hd⟩ : ∃ d, d = endOf high (spanW w.2 p) := ⟨_, rfl⟩
      rw [← hd] at ha ed
      dsimp only at ha
      split at ha
      · cases ha
      · rename_i hlt
        have hge := enter_ge (opens := w.2.opens) (t := c) (by omega)
        have hwr : wr (enterF w.2.opens c + d) = enterF w.2.opens c + d := wr_small (by unfold okTime at ed; omega)
        rw [hwr] at ha
        cases ha
        unfold okTime at ed
        refine ⟨by omega, by omega, fun hle => ?_⟩
        have hba := b3 (by omega)
        rw [hps]
        have hgo : (goOn n p (posR n p (frm, start) r i) v).1 = w.2.to := by unfold goOn; rw [hpa]
        rw [hgo]
        have hw1 := (okl w hm).1
        rw [hwf] at hw1
        rcases A1 _ hw1.1 hw1.2 with hb | ⟨hb1, hb2, hb3⟩
        · omega
        · have hal : arriveF w.2.opens c d = enterF w.2.opens c + d := arrive_of hcb.2 ed hle
          have hmo2 := arrive_mono (opens := w.2.opens) hb1 (show getI (arrivalsL n p (endOf high) frm start (-1)) (posR n p (frm, start) r i).1 ≤ c by omega) (show okTime d from ed)
          have h5 : arriveF w.2.opens (getI (arrivalsL n p (endOf high) frm start (-1)) (posR n p (frm, start) r i).1) (endOf high (spanW w.2 p)) ≤ 2880 := by rw [← hd]; omega
          have := A2 w.2.to _ (Reach.step w hb3 hm hwf h5)
          change _ ≤ arriveF w.2.opens _ (endOf high (spanW w.2 p)) at this
          rw [← hd] at this
          omega

theorem walked_best' (hn : n.Good) (hp : p.Good) {frm start z : Int} {r waits ts : List Int} {high : Bool} (hf : 0 ≤ frm ∧ frm < n.places) (hs : 0 ≤ start ∧ start ≤ 2880) (h : walkR n p frm r = some z) (hl : r.length ≤ 30)
    (hw : ∀ v ∈ waits, 0 ≤ v ∧ v ≤ 2880) (hts : ∀ (i : Nat) v, r[i]? = some v → (if i < ts.length then getI ts i else (spanW (pathAt n v) p).hi) = endOf high (spanW (pathAt n v) p)) (hle : walkedF n p r start waits ts ≤ 2880) :
    getI (arrivalsL n p (endOf high) frm start (-1)) z ≤ walkedF n p r start waits ts := by
  unfold walkedF at hle ⊢
  cases h0 : walkedAt n p r waits ts start r.length with
  | none => rw [h0] at hle; simp at hle
  | some a =>
    rw [h0] at hle
    have := (walked_best hn hp hf hs h hl hw hts r.length a (Nat.le_refl _) h0).2.2 hle
    rw [(walkR_at h).2] at this
    exact this
end
end Go.Ab
namespace Go.Ab
open Go.RowKit Go.Proofs
set_option maxHeartbeats 4000000
set_option maxRecDepth 20000
attribute [local irreducible] WalkL Walk

def lowF (n : Net) (p : Party) (r : List Int) (i : Nat) : Int := (spanW (pathAt n (getI r i)) p).lo
def lowL (n : Net) (p : Party) (r : List Int) (k : Nat) : List Int := (List.range k).map (lowF n p r)

theorem f5 (n : Net) (p : Party) (x : Trip) (l : List Int) (hs : n.Small) (hr : x.route.length < 2 ^ 30) (hl : l.length < 2 ^ 30) : Fn Try.prog 5 [.agg n.cells, .agg p.cells, .agg x.row, .sl (intRows l)] (.bool true) := by
  have h20 := f20 n p x hs
  have h22 := f22 n p x.route x.frm hs.paths hr
  have hll := intRows_len l
  have hrl := intRows_len x.route
  refine fn_walk 198 Try.call5 Try.func5 rfl (by decide) fun J => ?_
  simp (maxSteps := 4000000) only [go_sem, St.start, Try.ntmps5, Try.results5, Net.cells, Party.cells, Trip.row]
  by_cases hfit : fitsB n p x = true
  · by_cases hl60 : (l.length : Int) > 60
    · have hl60' : decide ((l.length : Int) > 60) = true := by simpa using hl60
      repeat (first | refine walkL_seq ?_ | refine walkL_skip ?_ | refine walkL_block ?_ | (refine walkL_region fun K hK => ?_; simp (maxSteps := 4000000) only [go_sem, hfit, hll, hl60']; (repeat (first | (refine ⟨_, .lent (hf := h20) (hd := rfl) (hr := rfl), ?_⟩; simp (maxSteps := 4000000) only [go_sem, hfit, hll, hl60']) | (refine ⟨_, .given (hf := h20) (hd := rfl) (ha := rfl), ?_⟩; simp (maxSteps := 4000000) only [go_sem, hfit, hll, hl60']))); refine hK _ ?_; clear hK K) | refine walkL_nil ?_ | refine walkL_ret ?_ | refine walkL_exit ?_ | refine blockA_here ?_ | refine blockA_other rfl ?_ | refine blockA_ret ?_ | refine blockA_normal ?_ | refine thenA_ret ?_ | refine thenA_exit ?_ | refine thenA_normal ?_)
      refine walkL_true rfl ?_
      repeat (first | refine walkL_seq ?_ | refine walkL_skip ?_ | refine walkL_block ?_ | (refine walkL_region fun K hK => ?_; simp (maxSteps := 4000000) only [go_sem]; (repeat (first | (refine ⟨_, .lent (hf := f13) (hd := rfl) (hr := rfl), ?_⟩; simp (maxSteps := 4000000) only [go_sem]) | (refine ⟨_, .given (hf := f13) (hd := rfl) (ha := rfl), ?_⟩; simp (maxSteps := 4000000) only [go_sem]))); refine hK _ ?_; clear hK K) | refine walkL_nil ?_ | refine walkL_ret ?_ | refine walkL_exit ?_ | refine blockA_here ?_ | refine blockA_other rfl ?_ | refine blockA_ret ?_ | refine blockA_normal ?_ | refine thenA_ret ?_ | refine thenA_exit ?_ | refine thenA_normal ?_)
      simp (maxSteps := 4000000) only [go_sem]
    · have hl60' : decide ((l.length : Int) > 60) = false := by simpa using hl60
      by_cases hro : isRouteB n p x.frm x.route = true
      · have hf := fits_of hfit
        have hpl := hf.net.places
        have ho2 : openF n p [x.frm] [x.start] = 0 := open_iff.2 ⟨hf.net, hf.party, by simpa using hf.frm, by simpa using hf.start⟩
        repeat (first | refine walkL_seq ?_ | refine walkL_skip ?_ | refine walkL_block ?_ | (refine walkL_region fun K hK => ?_; simp (maxSteps := 4000000) only [go_sem, hfit, hll, hl60', hro]; (repeat (first | (refine ⟨_, .lent (hf := h20) (hd := rfl) (hr := rfl), ?_⟩; simp (maxSteps := 4000000) only [go_sem, hfit, hll, hl60', hro]) | (refine ⟨_, .lent (hf := h22) (hd := rfl) (hr := rfl), ?_⟩; simp (maxSteps := 4000000) only [go_sem, hfit, hll, hl60', hro]) | (refine ⟨_, .given (hf := h20) (hd := rfl) (ha := rfl), ?_⟩; simp (maxSteps := 4000000) only [go_sem, hfit, hll, hl60', hro]) | (refine ⟨_, .given (hf := h22) (hd := rfl) (ha := rfl), ?_⟩; simp (maxSteps := 4000000) only [go_sem, hfit, hll, hl60', hro]))); refine hK _ ?_; clear hK K) | refine walkL_nil ?_ | refine walkL_ret ?_ | refine walkL_exit ?_ | refine blockA_here ?_ | refine blockA_other rfl ?_ | refine blockA_ret ?_ | refine blockA_normal ?_ | refine thenA_ret ?_ | refine thenA_exit ?_ | refine thenA_normal ?_)
        refine walkL_false rfl ?_
        repeat (first | refine walkL_seq ?_ | refine walkL_skip ?_ | refine walkL_block ?_ | (refine walkL_region fun K hK => ?_; simp (maxSteps := 4000000) only [go_sem]; refine hK _ ?_; clear hK K) | refine walkL_nil ?_ | refine walkL_ret ?_ | refine walkL_exit ?_ | refine blockA_here ?_ | refine blockA_other rfl ?_ | refine blockA_ret ?_ | refine blockA_normal ?_ | refine thenA_ret ?_ | refine thenA_exit ?_ | refine thenA_normal ?_)
        refine walkL_loopS (fun (i : Nat) => [(9, .d (.i i))]) (fun _ => []) (fun i => i ≤ l.length ∧ ∀ v ∈ l.take i, 0 ≤ v ∧ v ≤ 2880) (fun i => l.length - i) 0 ?_ ⟨Nat.zero_le _, by simp⟩ ?_
        · simp (maxSteps := 4000000) only [go_sem]
          refine weak_of [] ?_ ?_ rfl rfl <;> simp [lessT, lessM, lessB, AV.less]
        · intro i ⟨hi, hval⟩
          simp (maxSteps := 4000000) only [go_sem]
          repeat (first | refine walkL_seq ?_ | refine walkL_skip ?_ | refine walkL_block ?_ | (refine walkL_region fun K hK => ?_; simp (maxSteps := 4000000) only [go_sem, hll]; refine hK _ ?_; clear hK K) | refine walkL_nil ?_ | refine walkL_ret ?_ | refine walkL_exit ?_ | refine blockA_here ?_ | refine blockA_other rfl ?_ | refine blockA_ret ?_ | refine blockA_normal ?_ | refine thenA_ret ?_ | refine thenA_exit ?_ | refine thenA_normal ?_)
          refine walkL_cond rfl (fun hb => ?_) (fun hb => ?_)
          · have hlt : i < l.length := by simpa using hb
            have hw : IntKind.i64.wrap ((i : Int) + 1) = ((i + 1 : Nat) : Int) := by rw [wr_small (by omega)]; simp
            obtain ⟨v, hv⟩ : ∃ v, l[i]? = some v := ⟨_, List.getElem?_eq_getElem hlt⟩
            have g1 := intRows_at hv
            repeat (first | refine walkL_seq ?_ | refine walkL_skip ?_ | refine walkL_block ?_ | (refine walkL_region fun K hK => ?_; simp (maxSteps := 4000000) only [go_sem]; refine hK _ ?_; clear hK K) | refine walkL_nil ?_ | refine walkL_ret ?_ | refine walkL_exit ?_ | refine blockA_here ?_ | refine blockA_other rfl ?_ | refine blockA_ret ?_ | refine blockA_normal ?_ | refine thenA_ret ?_ | refine thenA_exit ?_ | refine thenA_normal ?_)
            refine walkL_meetS [(59, .d (.bool (decide (v < 0) || decide (v > 2880))))] [] ?_ ?_
            · refine walkL_region fun K hK => ?_
              simp (maxSteps := 4000000) only [go_sem, g1]
              by_cases ho0 : (decide (v < 0)) = true
              · simp (maxSteps := 4000000) only [go_sem, g1, ho0]
                refine hK _ ?_
                clear hK K
                refine walkL_nil ?_
                refine thenA_normal ?_
                refine ⟨rfl, ?_⟩
                rw [show (decide (v < 0) || decide (v > 2880)) = (true) from by simp [ho0]]
                simp (maxSteps := 4000000) only [go_sem]
                refine weak_of [] ?_ ?_ rfl rfl <;> simp [lessT, lessM, lessB, AV.less]
              · simp (maxSteps := 4000000) only [go_sem, g1, ho0]
                refine hK _ ?_
                clear hK K
                refine walkL_nil ?_
                refine thenA_normal ?_
                refine ⟨rfl, ?_⟩
                rw [show (decide (v < 0) || decide (v > 2880)) = (decide (v > 2880)) from by simp [ho0]]
                simp (maxSteps := 4000000) only [go_sem]
                refine weak_of [] ?_ ?_ rfl rfl <;> simp [lessT, lessM, lessB, AV.less]
            simp (maxSteps := 4000000) only [go_sem]
            refine walkL_cond rfl (fun hc => ?_) (fun hc => ?_)
            · repeat (first | refine walkL_seq ?_ | refine walkL_skip ?_ | refine walkL_block ?_ | (refine walkL_region fun K hK => ?_; simp (maxSteps := 4000000) only [go_sem]; (repeat (first | (refine ⟨_, .lent (hf := f13) (hd := rfl) (hr := rfl), ?_⟩; simp (maxSteps := 4000000) only [go_sem]) | (refine ⟨_, .given (hf := f13) (hd := rfl) (ha := rfl), ?_⟩; simp (maxSteps := 4000000) only [go_sem]))); refine hK _ ?_; clear hK K) | refine walkL_nil ?_ | refine walkL_ret ?_ | refine walkL_exit ?_ | refine blockA_here ?_ | refine blockA_other rfl ?_ | refine blockA_ret ?_ | refine blockA_normal ?_ | refine thenA_ret ?_ | refine thenA_exit ?_ | refine thenA_normal ?_)
              simp (maxSteps := 4000000) only [go_sem]
            · have hc' : 0 ≤ v ∧ v ≤ 2880 := by
                simp only [Bool.or_eq_false_iff, decide_eq_false_iff_not] at hc
                omega
              repeat (first | refine walkL_seq ?_ | refine walkL_skip ?_ | refine walkL_block ?_ | (refine walkL_region fun K hK => ?_; simp (maxSteps := 4000000) only [go_sem, hw]; refine hK _ ?_; clear hK K) | refine walkL_nil ?_ | refine walkL_ret ?_ | refine walkL_exit ?_ | refine blockA_here ?_ | refine blockA_other rfl ?_ | refine blockA_ret ?_ | refine blockA_normal ?_ | refine thenA_ret ?_ | refine thenA_exit ?_ | refine thenA_normal ?_)
              refine ⟨rfl, i + 1, ?_, ⟨hlt, ?_⟩, by omega⟩
              · refine weak_of [] ?_ ?_ rfl rfl <;> simp [lessT, lessM, lessB, AV.less]
              · intro u hu
                rw [List.take_add_one, hv] at hu
                rcases List.mem_append.1 hu with hu | hu
                · exact hval u hu
                · have : u = v := by simpa using hu
                  rw [this]; exact hc'
          · have he : i = l.length := by (have : ¬ i < l.length := by simpa using hb); omega
            subst he
            rw [List.take_length] at hval
            have hon := isRoute_on hro
            have hrl30 : x.route.length ≤ 30 := by
              unfold isRouteB at hro
              have := (Bool.and_eq_true_iff.1 hro).2
              have : (x.route.length : Int) ≤ 30 := by simpa using this
              omega
            obtain ⟨z, hz⟩ : ∃ z, walkR n p x.frm x.route = some z := by
              unfold isRouteB at hro
              exact Option.isSome_iff_exists.1 (Bool.and_eq_true_iff.1 hro).1
            obtain ⟨hat, hzp⟩ := walkR_at (t := x.start) hz
            have hrange := posR_range hf.net hf.party hon (s := (x.frm, x.start)) hf.frm hf.start.1
            obtain ⟨pos, hpos⟩ : ∃ pos, pos = posR n p (x.frm, x.start) x.route := ⟨_, rfl⟩
            have hposs : ∀ (i : Nat) v, x.route[i]? = some v → (pos (i + 1)).1 = (pathAt n v).to := fun i v h => by rw [hpos, posR_succ h]; rfl
            have hpos0 : (pos 0).1 = x.frm := by rw [hpos]; rfl
            rw [← hpos] at hrange hzp
            repeat (first | refine walkL_seq ?_ | refine walkL_skip ?_ | refine walkL_block ?_ | (refine walkL_region fun K hK => ?_; simp (maxSteps := 4000000) only [go_sem]; refine hK _ ?_; clear hK K) | refine walkL_nil ?_ | refine walkL_ret ?_ | refine walkL_exit ?_ | refine blockA_here ?_ | refine blockA_other rfl ?_ | refine blockA_ret ?_ | refine blockA_normal ?_ | refine thenA_ret ?_ | refine thenA_exit ?_ | refine thenA_normal ?_)
            refine walkL_loopS (fun (i : Nat) => [(12, .d (.i i)), (10, .d (.i (pos i).1)), (11, .own 91)]) (fun i => [(91, some (.arr 3 1 (intRows (lowL n p x.route i))))]) (fun i => i ≤ x.route.length) (fun i => x.route.length - i) 0 ?_ (Nat.zero_le _) ?_
            · simp (maxSteps := 4000000) only [go_sem, hpos0]
              refine weak_of [91] ?_ ?_ rfl rfl <;> simp [lessT, lessM, lessB, AV.less, lowL, intRows]
            · intro i hi
              simp (maxSteps := 4000000) only [go_sem]
              repeat (first | refine walkL_seq ?_ | refine walkL_skip ?_ | refine walkL_block ?_ | (refine walkL_region fun K hK => ?_; simp (maxSteps := 4000000) only [go_sem, hrl]; refine hK _ ?_; clear hK K) | refine walkL_nil ?_ | refine walkL_ret ?_ | refine walkL_exit ?_ | refine blockA_here ?_ | refine blockA_other rfl ?_ | refine blockA_ret ?_ | refine blockA_normal ?_ | refine thenA_ret ?_ | refine thenA_exit ?_ | refine thenA_normal ?_)
              refine walkL_cond rfl (fun hb => ?_) (fun hb => ?_)
              · have hlt : i < x.route.length := by simpa using hb
                have hw : IntKind.i64.wrap ((i : Int) + 1) = ((i + 1 : Nat) : Int) := by rw [wr_small (by omega)]; simp
                obtain ⟨v, hv⟩ : ∃ v, x.route[i]? = some v := ⟨_, List.getElem?_eq_getElem hlt⟩
                have g3 := intRows_at hv
                have hgi : getI x.route i = v := by simp [getI, List.getD, hv]
                have hvo := hon v (List.mem_of_getElem? hv)
                obtain ⟨hx, hxm⟩ := pathAt_mem hvo
                obtain ⟨v, rfl⟩ : ∃ j : Nat, v = (j : Int) := ⟨v.toNat, by have := hvo.1; omega⟩
                rw [Int.toNat_natCast] at hx
                have hps := hposs i _ hv
                have h24 := f24 n p v (pathAt n v) hx
                rw [Span.row] at h24
                have hnx : lowL n p x.route (i + 1) = lowL n p x.route i ++ [(spanW (pathAt n v) p).lo] := by simp [lowL, List.range_succ, lowF, hgi]
                have htl : (lowL n p x.route i).length + 1 ≤ 549755813888 := by simp [lowL]; omega
                obtain ⟨sp, hsp⟩ : ∃ sp, sp = spanW (pathAt n v) p := ⟨_, rfl⟩
                rw [← hsp] at h24 hnx
                obtain ⟨y, hy⟩ : ∃ y, y = pathAt n v := ⟨_, rfl⟩
                rw [← hy] at hx hps
                repeat (first | refine walkL_seq ?_ | refine walkL_skip ?_ | refine walkL_block ?_ | (refine walkL_region fun K hK => ?_; simp (maxSteps := 4000000) only [go_sem]; refine hK _ ?_; clear hK K) | refine walkL_nil ?_ | refine walkL_ret ?_ | refine walkL_exit ?_ | refine blockA_here ?_ | refine blockA_other rfl ?_ | refine blockA_ret ?_ | refine blockA_normal ?_ | refine thenA_ret ?_ | refine thenA_exit ?_ | refine thenA_normal ?_)
                refine walkL_drawn (by kernel_rfl) (by kernel_rfl) fun K hK => ?_
                simp (maxSteps := 4000000) only [go_sem, g3, hx, List.getElem?_map, Path.row]
                refine ⟨by kernel_rfl, hK _ ?_⟩
                clear hK K
                repeat (first | refine walkL_seq ?_ | refine walkL_skip ?_ | refine walkL_block ?_ | (refine walkL_region fun K hK => ?_; simp (maxSteps := 4000000) only [go_sem]; refine hK _ ?_; clear hK K) | refine walkL_nil ?_ | refine walkL_ret ?_ | refine walkL_exit ?_ | refine blockA_here ?_ | refine blockA_other rfl ?_ | refine blockA_ret ?_ | refine blockA_normal ?_ | refine thenA_ret ?_ | refine thenA_exit ?_ | refine thenA_normal ?_)
                refine walkL_drawnA (by kernel_rfl) (by kernel_rfl) fun K hK => ?_
                simp (maxSteps := 4000000) only [go_sem, g3]
                refine ⟨_, .fn (hf := h24) (hd := rfl) (hr := .inl rfl), ?_⟩
                simp (maxSteps := 4000000) only [go_sem, intRows_len, htl]
                refine ⟨by kernel_rfl, by kernel_rfl, hK _ ?_⟩
                clear hK K
                repeat (first | refine walkL_seq ?_ | refine walkL_skip ?_ | refine walkL_block ?_ | (refine walkL_region fun K hK => ?_; simp (maxSteps := 4000000) only [go_sem, hw]; refine hK _ ?_; clear hK K) | refine walkL_nil ?_ | refine walkL_ret ?_ | refine walkL_exit ?_ | refine blockA_here ?_ | refine blockA_other rfl ?_ | refine blockA_ret ?_ | refine blockA_normal ?_ | refine thenA_ret ?_ | refine thenA_exit ?_ | refine thenA_normal ?_)
                refine ⟨rfl, i + 1, ?_, hlt, by omega⟩
                rw [hps, hnx, ← intRows_append]
                refine weak_of [] ?_ ?_ rfl rfl <;> simp [lessT, lessM, lessB, AV.less]
                first | done | rfl
              · have he : i = x.route.length := by (have : ¬ i < x.route.length := by simpa using hb); omega
                subst he
                have htl : (lowL n p x.route x.route.length).length = x.route.length := by simp [lowL]
                have h21 := f21 n p x.frm x.start hs
                have e21 : arriveL n p x.frm x.start = ((arrivalsL n p spanHi x.frm x.start (-1)).map told1, (arrivalsL n p spanLo x.frm x.start (-1)).map told1, 0) := by rw [arriveL, if_pos ho2]
                rw [e21] at h21
                have h23a := f23 n p x.route l [] x.start hs hon (by omega) (by omega) (by simp)
                have h23b := f23 n p x.route l (lowL n p x.route x.route.length) x.start hs hon (by omega) (by omega) (by omega)
                have hzr := (hrange x.route.length).1
                rw [hzp] at hzr
                have ho3 : openF n p [x.frm, z] [x.start] = 0 := open_iff.2 ⟨hf.net, hf.party, by simpa using ⟨hf.frm, hzr⟩, by simpa using hf.start⟩
                have h15 := f15' n p x.frm x.start z hs
                have hba : walkedF n p x.route x.start l [] ≤ 2880 → getI (arrivalsL n p spanHi x.frm x.start (-1)) z ≤ walkedF n p x.route x.start l [] :=
                  walked_best' (high := true) hf.net hf.party hf.frm hf.start hz hrl30 hval (fun i v hv => by simp [endOf])
                have hbb : walkedF n p x.route x.start l (lowL n p x.route x.route.length) ≤ 2880 → getI (arrivalsL n p spanLo x.frm x.start (-1)) z ≤ walkedF n p x.route x.start l (lowL n p x.route x.route.length) := by
                  refine walked_best' (high := false) hf.net hf.party hf.frm hf.start hz hrl30 hval (fun i v hv => ?_)
                  have hlt := (List.getElem?_eq_some_iff.1 hv).1
                  have hgi : getI x.route i = v := by simp [getI, List.getD, hv]
                  rw [if_pos (by omega)]
                  simp [getI, List.getD, lowL, hlt, lowF, endOf]
                  have hvv : x.route[i] = v := by rw [List.getElem?_eq_getElem hlt] at hv; exact Option.some.inj hv
                  rw [hvv]
                have hroute := routeL_spec hf.net hf.party hf.frm hzr hf.start
                obtain ⟨A1, _⟩ := arr_spec (q := spanHi) (but := -1) (ways_ok hf.net hf.party (-1)).1 hf.frm hf.start
                obtain ⟨B1, _⟩ := arr_spec (q := spanLo) (but := -1) (ways_ok hf.net hf.party (-1)).2 hf.frm hf.start
                have hAz := A1 z hzr.1 hzr.2
                have hBz := B1 z hzr.1 hzr.2
                obtain ⟨slow, hslow⟩ : ∃ s, s = walkedF n p x.route x.start l [] := ⟨_, rfl⟩
                obtain ⟨fast, hfast⟩ : ∃ s, s = walkedF n p x.route x.start l (lowL n p x.route x.route.length) := ⟨_, rfl⟩
                obtain ⟨arr, harr⟩ : ∃ arr, arr = arrivalsL n p spanHi x.frm x.start (-1) := ⟨_, rfl⟩
                obtain ⟨best, hbest⟩ : ∃ best, best = arrivalsL n p spanLo x.frm x.start (-1) := ⟨_, rfl⟩
                have hal : arr.length = n.places.toNat := by rw [harr, arrivals_len]
                have hbl : best.length = n.places.toNat := by rw [hbest, arrivals_len]
                rw [← hslow] at h23a hba
                rw [← hfast] at h23b hbb
                rw [← harr] at h21 hroute hAz hba
                rw [← hbest] at h21 hBz hbb
                obtain ⟨low, hlow⟩ : ∃ low, low = lowL n p x.route x.route.length := ⟨_, rfl⟩
                rw [← hlow] at h23b ⊢
                have g1 : (intRows (arr.map told1))[z.toNat]? = some [.i (told1 (getI arr z))] := by
                  rw [intRows_get hzr.1 (by simp; omega), map_getI _ _ _ (by omega)]
                have g2 : (intRows (best.map told1))[z.toNat]? = some [.i (told1 (getI best z))] := by
                  rw [intRows_get hzr.1 (by simp; omega), map_getI _ _ _ (by omega)]
                have hlen : ((arr.length : Int) != n.places) = false := by simp; omega
                have hlenb : ((best.length : Int) != n.places) = false := by simp; omega
                have hv0 : never = 1073741824 := rfl
                obtain ⟨av, hav⟩ : ∃ av, av = told1 (getI arr z) := ⟨_, rfl⟩
                obtain ⟨bv, hbv⟩ : ∃ bv, bv = told1 (getI best z) := ⟨_, rfl⟩
                rw [← hav] at g1
                rw [← hbv] at g2
                have hA : slow ≤ 2880 → 0 ≤ av ∧ av ≤ slow ∧ getI arr z = av := fun h => by
                  have h1 := hba h
                  have h2 : getI arr z ≠ never := by omega
                  have h3 : av = getI arr z := by rw [hav]; unfold told1; rw [if_neg h2]
                  rcases hAz with h4 | h4 <;> omega
                have hB : fast ≤ 2880 → 0 ≤ bv ∧ bv ≤ fast := fun h => by
                  have h1 := hbb h
                  have h2 : getI best z ≠ never := by omega
                  have h3 : bv = getI best z := by rw [hbv]; unfold told1; rw [if_neg h2]
                  rcases hBz with h4 | h4 <;> omega
                obtain ⟨rt, ra, re, hrt, hrr⟩ : ∃ (rt : List Int) (ra re : Int), routeL n p x.frm x.start z = (rt, ra, re) ∧ (slow ≤ 2880 → re = 0 ∧ ra = av) := by
                  by_cases h : slow ≤ 2880
                  · obtain ⟨r, h1, _⟩ := hroute (by have := hA h; have := hba h; omega)
                    exact ⟨r, _, _, h1, fun _ => ⟨rfl, (hA h).2.2⟩⟩
                  · exact ⟨_, _, _, rfl, fun h' => absurd h' h⟩
                rw [hrt] at h15
                dsimp only at h15
                obtain ⟨s1, hs1⟩ : ∃ s1, s1 = decide (slow ≤ 2880) := ⟨_, rfl⟩
                obtain ⟨s2, hs2⟩ : ∃ s2, s2 = decide (fast ≤ 2880) := ⟨_, rfl⟩
                have k1 : s1 = true → decide (av < 0) = false := fun h => by
                  have := hA (by rw [hs1] at h; simpa using h)
                  simp; omega
                have k2 : s1 = true → decide (av > slow) = false := fun h => by
                  have := hA (by rw [hs1] at h; simpa using h)
                  simp; omega
                have k3 : s2 = true → decide (bv < 0) = false := fun h => by
                  have := hB (by rw [hs2] at h; simpa using h)
                  simp; omega
                have k4 : s2 = true → decide (bv > fast) = false := fun h => by
                  have := hB (by rw [hs2] at h; simpa using h)
                  simp; omega
                have k5 : decide (slow > 2880) = !s1 := by
                  rw [hs1]
                  by_cases h : slow ≤ 2880
                  · have : ¬ slow > 2880 := by omega
                    simp [h, this]
                  · have : slow > 2880 := by omega
                    simp [h, this]
                have k6 : s1 = true → (re == 0) = true := fun h => by
                  have := hrr (by rw [hs1] at h; simpa using h)
                  simp [this.1]
                have k7 : s1 = true → decide (ra ≤ slow) = true := fun h => by
                  have h1 : slow ≤ 2880 := by rw [hs1] at h; simpa using h
                  have := hrr h1
                  have := hA h1
                  simp; omega
                rw [hzp]
                repeat (first | refine walkL_seq ?_ | refine walkL_skip ?_ | refine walkL_block ?_ | (refine walkL_region fun K hK => ?_; simp (maxSteps := 4000000) only [go_sem, intRows_len, hlen, hlenb]; (repeat (first | (refine ⟨_, .lent (hf := h21) (hd := rfl) (hr := rfl), ?_⟩; simp (maxSteps := 4000000) only [go_sem, intRows_len, hlen, hlenb]) | (refine ⟨_, .given (hf := h21) (hd := rfl) (ha := rfl), ?_⟩; simp (maxSteps := 4000000) only [go_sem, intRows_len, hlen, hlenb]))); refine hK _ ?_; clear hK K) | refine walkL_nil ?_ | refine walkL_ret ?_ | refine walkL_exit ?_ | refine blockA_here ?_ | refine blockA_other rfl ?_ | refine blockA_ret ?_ | refine blockA_normal ?_ | refine thenA_ret ?_ | refine thenA_exit ?_ | refine thenA_normal ?_)
                refine walkL_false rfl ?_
                repeat (first | refine walkL_seq ?_ | refine walkL_skip ?_ | refine walkL_block ?_ | (refine walkL_region fun K hK => ?_; simp (maxSteps := 4000000) only [go_sem]; refine hK _ ?_; clear hK K) | refine walkL_nil ?_ | refine walkL_ret ?_ | refine walkL_exit ?_ | refine blockA_here ?_ | refine blockA_other rfl ?_ | refine blockA_ret ?_ | refine blockA_normal ?_ | refine thenA_ret ?_ | refine thenA_exit ?_ | refine thenA_normal ?_)
                refine walkL_drawn (by kernel_rfl) (by kernel_rfl) fun K hK => ?_
                simp (maxSteps := 4000000) only [go_sem]
                refine ⟨_, .fn (hf := h23a) (hd := rfl) (hr := .inl rfl), ?_⟩
                simp (maxSteps := 4000000) only [go_sem]
                refine ⟨_, .fn (hf := h23b) (hd := rfl) (hr := .inl rfl), ?_⟩
                simp (maxSteps := 4000000) only [go_sem]
                refine ⟨by kernel_rfl, hK _ ?_⟩
                clear hK K
                cases hq1 : s1 <;> cases hq2 : s2
                all_goals
                  rw [hq1] at hs1 k1 k2 k5 k6 k7
                  rw [hq2] at hs2 k3 k4
                  repeat (first | refine walkL_seq ?_ | refine walkL_skip ?_ | refine walkL_block ?_ | (refine walkL_region fun K hK => ?_; simp (maxSteps := 4000000) only [go_sem, ← hs1, ← hs2, k1, k2, k3, k4, g1, g2, hzr.1]; refine hK _ ?_; clear hK K) | refine walkL_nil ?_ | refine walkL_ret ?_ | refine walkL_exit ?_ | refine blockA_here ?_ | refine blockA_other rfl ?_ | refine blockA_ret ?_ | refine blockA_normal ?_ | refine thenA_ret ?_ | refine thenA_exit ?_ | refine thenA_normal ?_)
                  refine walkL_false rfl ?_
                  repeat (first | refine walkL_seq ?_ | refine walkL_skip ?_ | refine walkL_block ?_ | (refine walkL_region fun K hK => ?_; simp (maxSteps := 4000000) only [go_sem, k5, k6, k7, Bool.not_true, Bool.not_false]; (repeat (first | (refine ⟨_, .lent (hf := h15) (hd := rfl) (hr := rfl), ?_⟩; simp (maxSteps := 4000000) only [go_sem, k5, k6, k7, Bool.not_true, Bool.not_false]) | (refine ⟨_, .lent (hf := f13) (hd := rfl) (hr := rfl), ?_⟩; simp (maxSteps := 4000000) only [go_sem, k5, k6, k7, Bool.not_true, Bool.not_false]) | (refine ⟨_, .given (hf := h15) (hd := rfl) (ha := rfl), ?_⟩; simp (maxSteps := 4000000) only [go_sem, k5, k6, k7, Bool.not_true, Bool.not_false]) | (refine ⟨_, .given (hf := f13) (hd := rfl) (ha := rfl), ?_⟩; simp (maxSteps := 4000000) only [go_sem, k5, k6, k7, Bool.not_true, Bool.not_false]))); refine hK _ ?_; clear hK K) | refine walkL_nil ?_ | refine walkL_ret ?_ | refine walkL_exit ?_ | refine blockA_here ?_ | refine blockA_other rfl ?_ | refine blockA_ret ?_ | refine blockA_normal ?_ | refine thenA_ret ?_ | refine thenA_exit ?_ | refine thenA_normal ?_)
                  simp (maxSteps := 4000000) only [go_sem]
      · have hro' : isRouteB n p x.frm x.route = false := by simpa using hro
        repeat (first | refine walkL_seq ?_ | refine walkL_skip ?_ | refine walkL_block ?_ | (refine walkL_region fun K hK => ?_; simp (maxSteps := 4000000) only [go_sem, hfit, hll, hl60', hro']; (repeat (first | (refine ⟨_, .lent (hf := h20) (hd := rfl) (hr := rfl), ?_⟩; simp (maxSteps := 4000000) only [go_sem, hfit, hll, hl60', hro']) | (refine ⟨_, .lent (hf := h22) (hd := rfl) (hr := rfl), ?_⟩; simp (maxSteps := 4000000) only [go_sem, hfit, hll, hl60', hro']) | (refine ⟨_, .given (hf := h20) (hd := rfl) (ha := rfl), ?_⟩; simp (maxSteps := 4000000) only [go_sem, hfit, hll, hl60', hro']) | (refine ⟨_, .given (hf := h22) (hd := rfl) (ha := rfl), ?_⟩; simp (maxSteps := 4000000) only [go_sem, hfit, hll, hl60', hro']))); refine hK _ ?_; clear hK K) | refine walkL_nil ?_ | refine walkL_ret ?_ | refine walkL_exit ?_ | refine blockA_here ?_ | refine blockA_other rfl ?_ | refine blockA_ret ?_ | refine blockA_normal ?_ | refine thenA_ret ?_ | refine thenA_exit ?_ | refine thenA_normal ?_)
        refine walkL_true rfl ?_
        repeat (first | refine walkL_seq ?_ | refine walkL_skip ?_ | refine walkL_block ?_ | (refine walkL_region fun K hK => ?_; simp (maxSteps := 4000000) only [go_sem]; (repeat (first | (refine ⟨_, .lent (hf := f13) (hd := rfl) (hr := rfl), ?_⟩; simp (maxSteps := 4000000) only [go_sem]) | (refine ⟨_, .given (hf := f13) (hd := rfl) (ha := rfl), ?_⟩; simp (maxSteps := 4000000) only [go_sem]))); refine hK _ ?_; clear hK K) | refine walkL_nil ?_ | refine walkL_ret ?_ | refine walkL_exit ?_ | refine blockA_here ?_ | refine blockA_other rfl ?_ | refine blockA_ret ?_ | refine blockA_normal ?_ | refine thenA_ret ?_ | refine thenA_exit ?_ | refine thenA_normal ?_)
        simp (maxSteps := 4000000) only [go_sem]
  · have hfit' : fitsB n p x = false := by simpa using hfit
    repeat (first | refine walkL_seq ?_ | refine walkL_skip ?_ | refine walkL_block ?_ | (refine walkL_region fun K hK => ?_; simp (maxSteps := 4000000) only [go_sem, hfit']; (repeat (first | (refine ⟨_, .lent (hf := h20) (hd := rfl) (hr := rfl), ?_⟩; simp (maxSteps := 4000000) only [go_sem, hfit']) | (refine ⟨_, .given (hf := h20) (hd := rfl) (ha := rfl), ?_⟩; simp (maxSteps := 4000000) only [go_sem, hfit']))); refine hK _ ?_; clear hK K) | refine walkL_nil ?_ | refine walkL_ret ?_ | refine walkL_exit ?_ | refine blockA_here ?_ | refine blockA_other rfl ?_ | refine blockA_ret ?_ | refine blockA_normal ?_ | refine thenA_ret ?_ | refine thenA_exit ?_ | refine thenA_normal ?_)
    refine walkL_true rfl ?_
    repeat (first | refine walkL_seq ?_ | refine walkL_skip ?_ | refine walkL_block ?_ | (refine walkL_region fun K hK => ?_; simp (maxSteps := 4000000) only [go_sem]; (repeat (first | (refine ⟨_, .lent (hf := f13) (hd := rfl) (hr := rfl), ?_⟩; simp (maxSteps := 4000000) only [go_sem]) | (refine ⟨_, .given (hf := f13) (hd := rfl) (ha := rfl), ?_⟩; simp (maxSteps := 4000000) only [go_sem]))); refine hK _ ?_; clear hK K) | refine walkL_nil ?_ | refine walkL_ret ?_ | refine walkL_exit ?_ | refine blockA_here ?_ | refine blockA_other rfl ?_ | refine blockA_ret ?_ | refine blockA_normal ?_ | refine thenA_ret ?_ | refine thenA_exit ?_ | refine thenA_normal ?_)
    simp (maxSteps := 4000000) only [go_sem]
end Go.Ab
