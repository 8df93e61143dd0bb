/- A walk engine over abstract states, and the contracts of the functions that the statement reaches: part 5. -/
import Derived.Test.YtldnaopmkgikkaaWd
set_option linter.unusedVariables false
set_option linter.unusedSimpArgs false
namespace Go.Ab
open Go.RowKit Go.Proofs
set_option maxHeartbeats 4000000
set_option maxRecDepth 20000
attribute [local irreducible] WalkL Walk

/-- Up to which path of a route the party can turn back. -/
def turnF (n : Net) (p : Party) (by1 : List Int) : List Int → Int → Nat → Int
  | [], _, k => k
  | v :: r, t, k => if arriveF (pathAt n v).opens t (spanW (pathAt n v) p).hi > getI by1 (pathAt n v).to then k else turnF n p by1 r (arriveF (pathAt n v).opens t (spanW (pathAt n v) p).hi) (k + 1)
def turnL (n : Net) (p : Party) (route : List Int) (frm start home deadline : Int) : Int × Int :=
  if openF n p [frm, home] [start, deadline] = 0 then
    if isRouteB n p frm route then
      if start > getI (deadlinesL n p home deadline) frm then (-1, 0) else (turnF n p (deadlinesL n p home deadline) route start 0, 0)
    else (0, 12)
  else (0, openF n p [frm, home] [start, deadline])

theorem walkR_on {n : Net} {p : Party} : ∀ {l : List Int} {f : Int}, (walkR n p f l).isSome = true → ∀ v ∈ l, onNet n v
  | [], _, _, _, h => by cases h
  | a :: l, f, hs, v, hv => by
    have hs' : (l.foldl (fun s i => s.bind fun g => onB n p g i) (onB n p f a)).isSome = true := hs
    cases ho : onB n p f a with
    | none => rw [ho, walkR_none] at hs'; cases hs'
    | some g =>
      rw [ho] at hs'
      rcases List.mem_cons.1 hv with rfl | hv
      · unfold onB at ho
        split at ho
        · rename_i hw
          obtain ⟨h1, h2⟩ := within_iff.1 hw
          exact ⟨h1, by omega⟩
        · cases ho
      · exact walkR_on (f := g) hs' v hv

theorem isRoute_on {n : Net} {p : Party} {l : List Int} {f : Int} (h : isRouteB n p f l = true) : ∀ v ∈ l, onNet n v := by
  unfold isRouteB at h
  exact walkR_on (Bool.and_eq_true_iff.1 h).1

theorem f34 (n : Net) (p : Party) (route : List Int) (frm start home deadline : Int) (hs : n.Small) (hr : route.length < 2 ^ 30) : Fn Try.prog 34 [.agg n.cells, .agg p.cells, .sl (intRows route), .i frm, .i start, .i home, .i deadline]
    (.tup [.i (turnL n p route frm start home deadline).1, .i (turnL n p route frm start home deadline).2]) := by
  have h41 := f41 n p [frm, home] [start, deadline] hs (by simp) (by simp)
  have h78 := f78 n p route frm hs.paths hr
  refine fn_walk 87 Try.call34 Try.func34 rfl (by decide) fun J => ?_
  simp (maxSteps := 4000000) only [go_sem, St.start, Try.ntmps34, Try.results34, Net.cells, Party.cells]
  by_cases hop : openF n p [frm, home] [start, deadline] = 0
  · by_cases hro : isRouteB n p frm route = true
    · have ho := open_iff.1 hop
      have hfr := ho.place frm (by simp)
      have hto := ho.place home (by simp)
      have hpl := ho.net.places
      have h54 := f54 n p home deadline ho.net.ok ho.net.hi hto
      obtain ⟨D, hD⟩ : ∃ D, D = deadlinesL n p home deadline := ⟨_, rfl⟩
      have hlen : D.length = n.places.toNat := hD ▸ deadlines_len n p home deadline
      rw [← hD] at h54
      have hg : (intRows D)[frm.toNat]? = some [.i (getI D frm)] := intRows_get hfr.1 (by omega)
      have hlt0 : frm.toNat < (intRows D).length := by rw [intRows_len]; omega
      repeat (first | refine walkL_seq ?_ | refine walkL_skip ?_ | refine walkL_block ?_ | (refine walkL_region fun K hK => ?_; simp (maxSteps := 4000000) only [go_sem, walkCells, hop, hro]; (repeat (first | (refine ⟨_, .lent (hf := h41) (hd := rfl) (hr := rfl), ?_⟩; simp (maxSteps := 4000000) only [go_sem, walkCells, hop, hro]) | (refine ⟨_, .lent (hf := h78) (hd := rfl) (hr := rfl), ?_⟩; simp (maxSteps := 4000000) only [go_sem, walkCells, hop, hro]) | (refine ⟨_, .given (hf := h41) (hd := rfl) (ha := rfl), ?_⟩; simp (maxSteps := 4000000) only [go_sem, walkCells, hop, hro]) | (refine ⟨_, .given (hf := h78) (hd := rfl) (ha := rfl), ?_⟩; simp (maxSteps := 4000000) only [go_sem, walkCells, hop, hro]))); refine hK _ ?_; clear hK K) | refine walkL_nil ?_ | refine walkL_ret ?_ | refine walkL_exit ?_ | refine blockA_here ?_ | refine blockA_other rfl ?_ | refine blockA_ret ?_ | refine blockA_normal ?_ | refine thenA_ret ?_ | refine thenA_exit ?_ | refine thenA_normal ?_)
      refine walkL_false rfl ?_
      repeat (first | refine walkL_seq ?_ | refine walkL_skip ?_ | refine walkL_block ?_ | (refine walkL_region fun K hK => ?_; simp (maxSteps := 4000000) only [go_sem]; refine hK _ ?_; clear hK K) | refine walkL_nil ?_ | refine walkL_ret ?_ | refine walkL_exit ?_ | refine blockA_here ?_ | refine blockA_other rfl ?_ | refine blockA_ret ?_ | refine blockA_normal ?_ | refine thenA_ret ?_ | refine thenA_exit ?_ | refine thenA_normal ?_)
      refine walkL_false rfl ?_
      repeat (first | refine walkL_seq ?_ | refine walkL_skip ?_ | refine walkL_block ?_ | (refine walkL_region fun K hK => ?_; simp (maxSteps := 4000000) only [go_sem]; refine hK _ ?_; clear hK K) | refine walkL_nil ?_ | refine walkL_ret ?_ | refine walkL_exit ?_ | refine blockA_here ?_ | refine blockA_other rfl ?_ | refine blockA_ret ?_ | refine blockA_normal ?_ | refine thenA_ret ?_ | refine thenA_exit ?_ | refine thenA_normal ?_)
      refine walkL_region fun K hK => ?_
      simp (maxSteps := 4000000) only [go_sem]
      refine ⟨_, .lentS (hdst := rfl) (hf := h54) (hd := rfl) (hr := rowsFlat_int _) (hfr := rfl), ?_⟩
      simp (maxSteps := 4000000) only [go_sem]
      refine hK _ ?_
      clear hK K
      repeat (first | refine walkL_seq ?_ | refine walkL_skip ?_ | refine walkL_block ?_ | (refine walkL_region fun K hK => ?_; simp (maxSteps := 4000000) only [go_sem, hg, hlt0, hfr.1]; refine hK _ ?_; clear hK K) | refine walkL_nil ?_ | refine walkL_ret ?_ | refine walkL_exit ?_ | refine blockA_here ?_ | refine blockA_other rfl ?_ | refine blockA_ret ?_ | refine blockA_normal ?_ | refine thenA_ret ?_ | refine thenA_exit ?_ | refine thenA_normal ?_)
      refine walkL_cond rfl (fun hc => ?_) (fun hc => ?_)
      · have hc' : start > getI D frm := by simpa using hc
        have hf : turnL n p route frm start home deadline = (-1, 0) := by simp [turnL, hop, hro, ← hD, hc']
        repeat (first | refine walkL_seq ?_ | refine walkL_skip ?_ | refine walkL_block ?_ | (refine walkL_region fun K hK => ?_; simp (maxSteps := 4000000) only [go_sem]; refine hK _ ?_; clear hK K) | refine walkL_nil ?_ | refine walkL_ret ?_ | refine walkL_exit ?_ | refine blockA_here ?_ | refine blockA_other rfl ?_ | refine blockA_ret ?_ | refine blockA_normal ?_ | refine thenA_ret ?_ | refine thenA_exit ?_ | refine thenA_normal ?_)
        simp (maxSteps := 4000000) only [go_sem, hf]
      · have hc' : ¬ start > getI D frm := by simpa using hc
        have hf : turnL n p route frm start home deadline = (turnF n p D route start 0, 0) := by simp only [turnL, hop, hro, ← hD, hc', if_true, if_false]
        rw [hf]
        repeat (first | refine walkL_seq ?_ | refine walkL_skip ?_ | refine walkL_block ?_ | (refine walkL_region fun K hK => ?_; simp (maxSteps := 4000000) only [go_sem, intRows_len]; refine hK _ ?_; clear hK K) | refine walkL_nil ?_ | refine walkL_ret ?_ | refine walkL_exit ?_ | refine blockA_here ?_ | refine blockA_other rfl ?_ | refine blockA_ret ?_ | refine blockA_normal ?_ | refine thenA_ret ?_ | refine thenA_exit ?_ | refine thenA_normal ?_)
        refine walkL_loopS (fun (a : Nat × Int) => [(58, .d (.i a.1)), (4, .d (.i a.2)), (19, .undef), (20, .undef)]) (fun _ => []) (fun a => a.1 ≤ route.length ∧ turnF n p D (route.drop a.1) a.2 a.1 = turnF n p D route start 0) (fun a => route.length - a.1) (0, start) ?_ ⟨Nat.zero_le _, rfl⟩ ?_
        · simp (maxSteps := 4000000) only [go_sem]
          refine weak_of [] ?_ ?_ rfl rfl <;> simp [lessT, lessM, lessB, AV.less]
        · intro ⟨i, t⟩ ⟨hi, hall⟩
          dsimp only at hi hall
          simp (maxSteps := 4000000) only [go_sem]
          repeat (first | refine walkL_seq ?_ | refine walkL_skip ?_ | refine walkL_block ?_ | (refine walkL_region fun K hK => ?_; simp (maxSteps := 4000000) only [go_sem]; refine hK _ ?_; clear hK K) | refine walkL_nil ?_ | refine walkL_ret ?_ | refine walkL_exit ?_ | refine blockA_here ?_ | refine blockA_other rfl ?_ | refine blockA_ret ?_ | refine blockA_normal ?_ | refine thenA_ret ?_ | refine thenA_exit ?_ | refine thenA_normal ?_)
          refine walkL_cond rfl (fun hb => ?_) (fun hb => ?_)
          · have hlt : i < route.length := by simpa using hb
            have hw : IntKind.i64.wrap ((i : Int) + 1) = ((i + 1 : Nat) : Int) := by rw [wr_small (by omega)]; simp
            obtain ⟨v, hv⟩ : ∃ v, route[i]? = some v := ⟨_, List.getElem?_eq_getElem hlt⟩
            have g1 := intRows_at hv
            obtain ⟨hv0, hv1⟩ := isRoute_on hro v (List.mem_of_getElem? hv)
            obtain ⟨j, rfl⟩ : ∃ j : Nat, v = (j : Int) := ⟨v.toNat, by omega⟩
            obtain ⟨x, hx⟩ : ∃ x, n.paths[j]? = some x := ⟨_, List.getElem?_eq_getElem (by omega)⟩
            have hpa : pathAt n j = x := by simp [pathAt, List.getD, hx]
            have hxg := ho.net.path x (List.mem_of_getElem? hx)
            have hdr : route.drop i = (j : Int) :: route.drop (i + 1) := by
              rw [List.drop_eq_getElem_cons hlt]
              congr 1
              rw [List.getElem?_eq_getElem hlt] at hv
              exact Option.some.inj hv
            have hxo := hs.opens x (List.mem_of_getElem? hx)
            rw [hdr, turnF, hpa] at hall
            obtain ⟨u, hu⟩ : ∃ u, u = arriveF x.opens t (spanW x p).hi := ⟨_, rfl⟩
            rw [← hu] at hall
            have h50 : Fn Try.prog 50 [.agg (walkCells n p), .i j, .i t, .i (spanW x p).hi] (.i u) := hu ▸ f50 n p j x t (spanW x p).hi hx (by omega)
            rw [walkCells] at h50
            have h51 := f51 n p j x hx
            rw [walkCells] at h51
            have hgt : (intRows D)[x.to.toNat]? = some [.i (getI D x.to)] := intRows_get hxg.to.1 (by have := hxg.to.2; omega)
            have hltt : x.to.toNat < (intRows D).length := by rw [intRows_len]; have := hxg.to; omega
            repeat (first | refine walkL_seq ?_ | refine walkL_skip ?_ | refine walkL_block ?_ | (refine walkL_region fun K hK => ?_; simp (maxSteps := 4000000) only [go_sem, g1]; refine hK _ ?_; clear hK K) | refine walkL_nil ?_ | refine walkL_ret ?_ | refine walkL_exit ?_ | refine blockA_here ?_ | refine blockA_other rfl ?_ | refine blockA_ret ?_ | refine blockA_normal ?_ | refine thenA_ret ?_ | refine thenA_exit ?_ | refine thenA_normal ?_)
            refine walkL_drawn (by kernel_rfl) (by kernel_rfl) fun K hK => ?_
            simp (maxSteps := 4000000) only [go_sem, hx]
            refine ⟨_, .fn (hf := h51) (hd := rfl) (hr := .inl rfl), ?_⟩
            simp (maxSteps := 4000000) only [go_sem, Span.row]
            refine ⟨_, .fn (hf := h50) (hd := rfl) (hr := .inl rfl), ?_⟩
            simp (maxSteps := 4000000) only [go_sem]
            refine ⟨by kernel_rfl, hK _ ?_⟩
            clear hK K
            repeat (first | refine walkL_seq ?_ | refine walkL_skip ?_ | refine walkL_block ?_ | (refine walkL_region fun K hK => ?_; simp (maxSteps := 4000000) only [go_sem, hx, List.getElem?_map, Path.row, hgt, hltt, hxg.to.1]; refine hK _ ?_; clear hK K) | refine walkL_nil ?_ | refine walkL_ret ?_ | refine walkL_exit ?_ | refine blockA_here ?_ | refine blockA_other rfl ?_ | refine blockA_ret ?_ | refine blockA_normal ?_ | refine thenA_ret ?_ | refine thenA_exit ?_ | refine thenA_normal ?_)
            refine walkL_cond rfl (fun hc => ?_) (fun hc => ?_)
            · have hc' : u > getI D x.to := by simpa using hc
              rw [if_pos hc'] at hall
              repeat (first | refine walkL_seq ?_ | refine walkL_skip ?_ | refine walkL_block ?_ | (refine walkL_region fun K hK => ?_; simp (maxSteps := 4000000) only [go_sem]; refine hK _ ?_; clear hK K) | refine walkL_nil ?_ | refine walkL_ret ?_ | refine walkL_exit ?_ | refine blockA_here ?_ | refine blockA_other rfl ?_ | refine blockA_ret ?_ | refine blockA_normal ?_ | refine thenA_ret ?_ | refine thenA_exit ?_ | refine thenA_normal ?_)
              simp (maxSteps := 4000000) only [go_sem, ← hall]
            · have hc' : ¬ u > getI D x.to := by simpa using hc
              rw [if_neg hc'] at hall
              repeat (first | refine walkL_seq ?_ | refine walkL_skip ?_ | refine walkL_block ?_ | (refine walkL_region fun K hK => ?_; simp (maxSteps := 4000000) only [go_sem, hw]; refine hK _ ?_; clear hK K) | refine walkL_nil ?_ | refine walkL_ret ?_ | refine walkL_exit ?_ | refine blockA_here ?_ | refine blockA_other rfl ?_ | refine blockA_ret ?_ | refine blockA_normal ?_ | refine thenA_ret ?_ | refine thenA_exit ?_ | refine thenA_normal ?_)
              refine ⟨rfl, (i + 1, u), ?_, ⟨hlt, hall⟩, by dsimp only; omega⟩
              refine weak_of [] ?_ ?_ rfl rfl <;> simp [lessT, lessM, lessB, AV.less]
          · have he : i = route.length := by (have : ¬ i < route.length := by simpa using hb); omega
            subst he
            rw [List.drop_length, turnF] at hall
            repeat (first | refine walkL_seq ?_ | refine walkL_skip ?_ | refine walkL_block ?_ | (refine walkL_region fun K hK => ?_; simp (maxSteps := 4000000) only [go_sem, intRows_len]; refine hK _ ?_; clear hK K) | refine walkL_nil ?_ | refine walkL_ret ?_ | refine walkL_exit ?_ | refine blockA_here ?_ | refine blockA_other rfl ?_ | refine blockA_ret ?_ | refine blockA_normal ?_ | refine thenA_ret ?_ | refine thenA_exit ?_ | refine thenA_normal ?_)
            simp (maxSteps := 4000000) only [go_sem, ← hall]
    · have hro' : isRouteB n p frm route = false := by simpa using hro
      have hf : turnL n p route frm start home deadline = (0, 12) := by simp [turnL, hop, hro']
      repeat (first | refine walkL_seq ?_ | refine walkL_skip ?_ | refine walkL_block ?_ | (refine walkL_region fun K hK => ?_; simp (maxSteps := 4000000) only [go_sem, walkCells, hop, hro']; (repeat (first | (refine ⟨_, .lent (hf := h41) (hd := rfl) (hr := rfl), ?_⟩; simp (maxSteps := 4000000) only [go_sem, walkCells, hop, hro']) | (refine ⟨_, .lent (hf := h78) (hd := rfl) (hr := rfl), ?_⟩; simp (maxSteps := 4000000) only [go_sem, walkCells, hop, hro']) | (refine ⟨_, .given (hf := h41) (hd := rfl) (ha := rfl), ?_⟩; simp (maxSteps := 4000000) only [go_sem, walkCells, hop, hro']) | (refine ⟨_, .given (hf := h78) (hd := rfl) (ha := rfl), ?_⟩; simp (maxSteps := 4000000) only [go_sem, walkCells, hop, hro']))); refine hK _ ?_; clear hK K) | refine walkL_nil ?_ | refine walkL_ret ?_ | refine walkL_exit ?_ | refine blockA_here ?_ | refine blockA_other rfl ?_ | refine blockA_ret ?_ | refine blockA_normal ?_ | refine thenA_ret ?_ | refine thenA_exit ?_ | refine thenA_normal ?_)
      refine walkL_true rfl ?_
      repeat (first | refine walkL_seq ?_ | refine walkL_skip ?_ | refine walkL_block ?_ | (refine walkL_region fun K hK => ?_; simp (maxSteps := 4000000) only [go_sem]; refine hK _ ?_; clear hK K) | refine walkL_nil ?_ | refine walkL_ret ?_ | refine walkL_exit ?_ | refine blockA_here ?_ | refine blockA_other rfl ?_ | refine blockA_ret ?_ | refine blockA_normal ?_ | refine thenA_ret ?_ | refine thenA_exit ?_ | refine thenA_normal ?_)
      refine walkL_true rfl ?_
      repeat (first | refine walkL_seq ?_ | refine walkL_skip ?_ | refine walkL_block ?_ | (refine walkL_region fun K hK => ?_; simp (maxSteps := 4000000) only [go_sem]; refine hK _ ?_; clear hK K) | refine walkL_nil ?_ | refine walkL_ret ?_ | refine walkL_exit ?_ | refine blockA_here ?_ | refine blockA_other rfl ?_ | refine blockA_ret ?_ | refine blockA_normal ?_ | refine thenA_ret ?_ | refine thenA_exit ?_ | refine thenA_normal ?_)
      simp (maxSteps := 4000000) only [go_sem, hf]
  · have hf : turnL n p route frm start home deadline = (0, openF n p [frm, home] [start, deadline]) := by simp [turnL, hop]
    have hopb : (openF n p [frm, home] [start, deadline] == 0) = false := by simp [hop]
    repeat (first | refine walkL_seq ?_ | refine walkL_skip ?_ | refine walkL_block ?_ | (refine walkL_region fun K hK => ?_; simp (maxSteps := 4000000) only [go_sem, walkCells, hopb]; (repeat (first | (refine ⟨_, .lent (hf := h41) (hd := rfl) (hr := rfl), ?_⟩; simp (maxSteps := 4000000) only [go_sem, walkCells, hopb]) | (refine ⟨_, .given (hf := h41) (hd := rfl) (ha := rfl), ?_⟩; simp (maxSteps := 4000000) only [go_sem, walkCells, hopb]))); refine hK _ ?_; clear hK K) | refine walkL_nil ?_ | refine walkL_ret ?_ | refine walkL_exit ?_ | refine blockA_here ?_ | refine blockA_other rfl ?_ | refine blockA_ret ?_ | refine blockA_normal ?_ | refine thenA_ret ?_ | refine thenA_exit ?_ | refine thenA_normal ?_)
    refine walkL_false rfl ?_
    have hopn : (openF n p [frm, home] [start, deadline] != 0) = true := by simp [hop]
    repeat (first | refine walkL_seq ?_ | refine walkL_skip ?_ | refine walkL_block ?_ | (refine walkL_region fun K hK => ?_; simp (maxSteps := 4000000) only [go_sem, hopn]; refine hK _ ?_; clear hK K) | refine walkL_nil ?_ | refine walkL_ret ?_ | refine walkL_exit ?_ | refine blockA_here ?_ | refine blockA_other rfl ?_ | refine blockA_ret ?_ | refine blockA_normal ?_ | refine thenA_ret ?_ | refine thenA_exit ?_ | refine thenA_normal ?_)
    refine walkL_true rfl ?_
    repeat (first | refine walkL_seq ?_ | refine walkL_skip ?_ | refine walkL_block ?_ | (refine walkL_region fun K hK => ?_; simp (maxSteps := 4000000) only [go_sem]; refine hK _ ?_; clear hK K) | refine walkL_nil ?_ | refine walkL_ret ?_ | refine walkL_exit ?_ | refine blockA_here ?_ | refine blockA_other rfl ?_ | refine blockA_ret ?_ | refine blockA_normal ?_ | refine thenA_ret ?_ | refine thenA_exit ?_ | refine thenA_normal ?_)
    simp (maxSteps := 4000000) only [go_sem, hf]
end Go.Ab
namespace Go.Ab
open Go.RowKit Go.Proofs

/-- The specification's step is the program's. -/
theorem step_arrive {x : Path} {p : Party} {t : Int} {high : Bool} (ht : 0 ≤ t) (h1 : okTime (spanW x p).hi) (h2 : okTime (spanW x p).lo) : stepF x p t high = arriveF x.opens t (if high then (spanW x p).hi else (spanW x p).lo) := by
  have hd : okTime (if high then (spanW x p).hi else (spanW x p).lo) := by cases high; exact h2; exact h1
  obtain ⟨d, hdd⟩ : ∃ d, d = (if high then (spanW x p).hi else (spanW x p).lo) := ⟨_, rfl⟩
  have hv : never = 1073741824 := rfl
  rw [← hdd] at hd ⊢
  unfold stepF
  rw [← hdd, arrive_eq ht hd]
  have h3 := enter_nonneg (opens := x.opens) ht
  have h4 := enter_never x.opens t
  unfold okTime at hd
  have hw : wr (enterF x.opens t + d) = enterF x.opens t + d := wr_small (by omega)
  simp only [hw]
  split
  · rw [if_pos (by omega)]; rfl
  · split
    · rfl
    · rfl

/-- Where the party is on a route, and when: one path further. -/
def goOn (n : Net) (p : Party) (s : Int × Int) (v : Int) : Int × Int := ((pathAt n v).to, arriveF (pathAt n v).opens s.2 (spanW (pathAt n v) p).hi)
def posR (n : Net) (p : Party) (s : Int × Int) (l : List Int) (i : Nat) : Int × Int := (l.take i).foldl (goOn n p) s

theorem posR_succ {n : Net} {p : Party} {s : Int × Int} {l : List Int} {i : Nat} {v : Int} (h : l[i]? = some v) : posR n p s l (i + 1) = goOn n p (posR n p s l i) v := by
  unfold posR
  rw [List.take_add_one, h, List.foldl_append]; rfl

theorem turn_spec (n : Net) (p : Party) (by1 : List Int) : ∀ (l : List Int) (s : Int × Int) (k : Nat), ∃ m : Nat, m ≤ l.length ∧ turnF n p by1 l s.2 k = k + m ∧
    (∀ i, 0 < i → i ≤ m → (posR n p s l i).2 ≤ getI by1 (posR n p s l i).1) ∧ (m < l.length → (posR n p s l (m + 1)).2 > getI by1 (posR n p s l (m + 1)).1)
  | [], s, k => ⟨0, by simp, by simp [turnF], fun i h1 h2 => by omega, fun h => by simp at h⟩
  | v :: r, s, k => by
    unfold turnF
    by_cases hc : arriveF (pathAt n v).opens s.2 (spanW (pathAt n v) p).hi > getI by1 (pathAt n v).to
    · rw [if_pos hc]
      exact ⟨0, by simp, by simp, fun i h1 h2 => by omega, fun _ => hc⟩
    · rw [if_neg hc]
      obtain ⟨m, h1, h2, h3, h4⟩ := turn_spec n p by1 r (goOn n p s v) (k + 1)
      refine ⟨m + 1, by simp; omega, ?_, fun i hi him => ?_, fun h => h4 (by simpa using h)⟩
      · have : (goOn n p s v).2 = arriveF (pathAt n v).opens s.2 (spanW (pathAt n v) p).hi := rfl
        rw [← this, h2]; omega
      · obtain ⟨i, rfl⟩ : ∃ j, i = j + 1 := ⟨i - 1, by omega⟩
        rcases Nat.eq_zero_or_pos i with rfl | hi0
        · exact Int.not_lt.1 hc
        · exact h3 i hi0 (by omega)
end Go.Ab
namespace Go.Ab
open Go.RowKit Go.Proofs
set_option maxHeartbeats 4000000
set_option maxRecDepth 20000
attribute [local irreducible] WalkL Walk

theorem pathAt_mem {n : Net} {v : Int} (h : onNet n v) : n.paths[v.toNat]? = some (pathAt n v) ∧ pathAt n v ∈ n.paths := by
  obtain ⟨h0, h1⟩ := h
  have hx : n.paths[v.toNat]? = some (n.paths[v.toNat]'(by omega)) := List.getElem?_eq_getElem _
  have : pathAt n v = n.paths[v.toNat]'(by omega) := by simp [pathAt, List.getD, hx]
  rw [this]
  exact ⟨hx, List.getElem_mem _⟩

/-- Along a route places are places, and minutes are minutes or never. -/
theorem posR_range {n : Net} {p : Party} (hn : n.Good) (hp : p.Good) {l : List Int} (hl : ∀ v ∈ l, onNet n v) {s : Int × Int} (h1 : 0 ≤ s.1 ∧ s.1 < n.places) (h2 : 0 ≤ s.2) : ∀ i, (0 ≤ (posR n p s l i).1 ∧ (posR n p s l i).1 < n.places) ∧ 0 ≤ (posR n p s l i).2
  | 0 => ⟨h1, h2⟩
  | i + 1 => by
    obtain ⟨g1, g2⟩ := posR_range hn hp hl h1 h2 i
    cases hv : l[i]? with
    | none =>
      have : posR n p s l (i + 1) = posR n p s l i := by
        unfold posR
        rw [List.take_add_one, hv]; simp
      rw [this]
      exact ⟨g1, g2⟩
    | some v =>
      rw [posR_succ hv]
      obtain ⟨e1, e2⟩ := pathAt_mem (hl v (List.mem_of_getElem? hv))
      have hg := hn.path _ e2
      refine ⟨hg.to, ?_⟩
      have hv : never = 1073741824 := rfl
      rcases arrive_range (opens := (pathAt n v).opens) g2 (span_ok hg hp).1 with h | h
      · show 0 ≤ arriveF _ _ _
        omega
      · show 0 ≤ arriveF _ _ _
        have := (span_ok hg hp).1
        unfold okTime at this
        omega

/-- Up to where the party can turn back. -/
theorem turnL_spec {n : Net} {p : Party} {route : List Int} {frm start home deadline : Int} (hop : openF n p [frm, home] [start, deadline] = 0) (hro : isRouteB n p frm route = true) :
    ∃ k : Int, turnL n p route frm start home deadline = (k, 0) ∧ -1 ≤ k ∧ k ≤ route.length ∧
      (∀ i : Nat, (i : Int) ≤ k → (posR n p (frm, start) route i).2 ≤ getI (deadlinesL n p home deadline) (posR n p (frm, start) route i).1) ∧
      (∀ i : Nat, (i : Int) = k + 1 → i ≤ route.length → (posR n p (frm, start) route i).2 > getI (deadlinesL n p home deadline) (posR n p (frm, start) route i).1) := by
  by_cases hc : start > getI (deadlinesL n p home deadline) frm
  · refine ⟨-1, by simp [turnL, hop, hro, hc], by omega, by omega, fun i hi => by omega, fun i hi _ => ?_⟩
    obtain rfl : i = 0 := by omega
    exact hc
  · obtain ⟨m, h1, h2, h3, h4⟩ := turn_spec n p (deadlinesL n p home deadline) route (frm, start) 0
    refine ⟨m, ?_, by omega, by omega, fun i hi => ?_, fun i hi hl => ?_⟩
    · simp only [turnL, hop, hro, hc, if_true, if_false]
      rw [h2]; simp
    · rcases Nat.eq_zero_or_pos i with rfl | hi0
      · exact Int.not_lt.1 hc
      · exact h3 i hi0 (by omega)
    · obtain rfl : i = m + 1 := by omega
      exact h4 (by omega)
end Go.Ab
namespace Go.Ab
open Go.RowKit Go.Proofs
set_option maxHeartbeats 4000000
set_option maxRecDepth 20000
attribute [local irreducible] WalkL Walk

theorem f10 (n : Net) (p : Party) (x : Trip) (hs : n.Small) (hr : x.route.length < 2 ^ 30) : Fn Try.prog 10 [.agg n.cells, .agg p.cells, .agg x.row] (.bool true) := by
  have h20 := f20 n p x hs
  have h22 := f22 n p x.route x.frm hs.paths hr
  have hrl := intRows_len x.route
  refine fn_walk 150 Try.call10 Try.func10 rfl (by decide) fun J => ?_
  simp (maxSteps := 4000000) only [go_sem, St.start, Try.ntmps10, Try.results10, Net.cells, Party.cells, Trip.row]
  by_cases hfit : fitsB n p x = true
  · by_cases hro : isRouteB n p x.frm x.route = true
    · have hf := fits_of hfit
      have hpl := hf.net.places
      have ho1 : openF n p [x.frm, x.to] [x.start, x.deadline] = 0 := open_iff.2 ⟨hf.net, hf.party, by simpa using ⟨hf.frm, hf.to⟩, by simpa using ⟨hf.start, hf.deadline⟩⟩
      have h34 := f34 n p x.route x.frm x.start x.to x.deadline hs hr
      obtain ⟨k, hk0, hk1, hk2, hk3, hk4⟩ := turnL_spec ho1 hro
      rw [hk0] at h34
      have hlen : (x.route.length : Int) ≤ 30 := by
        unfold isRouteB at hro
        simpa using (Bool.and_eq_true_iff.1 hro).2
      have hon := isRoute_on hro
      have hrange := posR_range hf.net hf.party hon (s := (x.frm, x.start)) hf.frm hf.start.1
      obtain ⟨pos, hpos⟩ : ∃ pos, pos = posR n p (x.frm, x.start) x.route := ⟨_, rfl⟩
      have hposs : ∀ (i : Nat) v, x.route[i]? = some v → pos (i + 1) = goOn n p (pos i) v := fun i v h => hpos ▸ posR_succ h
      have hpos0 : pos 0 = (x.frm, x.start) := by rw [hpos]; rfl
      rw [← hpos] at hk3 hk4 hrange
      obtain ⟨by1, hby⟩ : ∃ by1, by1 = deadlinesL n p x.to x.deadline := ⟨_, rfl⟩
      rw [← hby] at hk3 hk4
      have hd := (dead_spec hf.net hf.party hf.to hf.deadline).1
      rw [← hby] at hd
      have hn1 : decide (k < -1) = false := by simp; omega
      have hn2 : decide (k > (x.route.length : Int)) = false := by simp; omega
      repeat (first | refine walkL_seq ?_ | refine walkL_skip ?_ | refine walkL_block ?_ | (refine walkL_region fun K hK => ?_; simp (maxSteps := 4000000) only [go_sem, hfit, hro]; (repeat (first | (refine ⟨_, .lent (hf := h20) (hd := rfl) (hr := rfl), ?_⟩; simp (maxSteps := 4000000) only [go_sem, hfit, hro]) | (refine ⟨_, .lent (hf := h22) (hd := rfl) (hr := rfl), ?_⟩; simp (maxSteps := 4000000) only [go_sem, hfit, hro]) | (refine ⟨_, .given (hf := h20) (hd := rfl) (ha := rfl), ?_⟩; simp (maxSteps := 4000000) only [go_sem, hfit, hro]) | (refine ⟨_, .given (hf := h22) (hd := rfl) (ha := rfl), ?_⟩; simp (maxSteps := 4000000) only [go_sem, hfit, hro]))); refine hK _ ?_; clear hK K) | refine walkL_nil ?_ | refine walkL_ret ?_ | refine walkL_exit ?_ | refine blockA_here ?_ | refine blockA_other rfl ?_ | refine blockA_ret ?_ | refine blockA_normal ?_ | refine thenA_ret ?_ | refine thenA_exit ?_ | refine thenA_normal ?_)
      refine walkL_false rfl ?_
      repeat (first | refine walkL_seq ?_ | refine walkL_skip ?_ | refine walkL_block ?_ | (refine walkL_region fun K hK => ?_; simp (maxSteps := 4000000) only [go_sem, hn1, hn2, hrl]; (repeat (first | (refine ⟨_, .lent (hf := h34) (hd := rfl) (hr := rfl), ?_⟩; simp (maxSteps := 4000000) only [go_sem, hn1, hn2, hrl]) | (refine ⟨_, .given (hf := h34) (hd := rfl) (ha := rfl), ?_⟩; simp (maxSteps := 4000000) only [go_sem, hn1, hn2, hrl]))); refine hK _ ?_; clear hK K) | refine walkL_nil ?_ | refine walkL_ret ?_ | refine walkL_exit ?_ | refine blockA_here ?_ | refine blockA_other rfl ?_ | refine blockA_ret ?_ | refine blockA_normal ?_ | refine thenA_ret ?_ | refine thenA_exit ?_ | refine thenA_normal ?_)
      refine walkL_false rfl ?_
      repeat (first | refine walkL_seq ?_ | refine walkL_skip ?_ | refine walkL_block ?_ | (refine walkL_region fun K hK => ?_; simp (maxSteps := 4000000) only [go_sem]; refine hK _ ?_; clear hK K) | refine walkL_nil ?_ | refine walkL_ret ?_ | refine walkL_exit ?_ | refine blockA_here ?_ | refine blockA_other rfl ?_ | refine blockA_ret ?_ | refine blockA_normal ?_ | refine thenA_ret ?_ | refine thenA_exit ?_ | refine thenA_normal ?_)
      refine walkL_drawn (by kernel_rfl) (by kernel_rfl) fun K hK => ?_
      simp (maxSteps := 4000000) only [go_sem]
      refine ⟨by kernel_rfl, hK _ ?_⟩
      clear hK K
      repeat (first | refine walkL_seq ?_ | refine walkL_skip ?_ | refine walkL_block ?_ | (refine walkL_region fun K hK => ?_; simp (maxSteps := 4000000) only [go_sem]; refine hK _ ?_; clear hK K) | refine walkL_nil ?_ | refine walkL_ret ?_ | refine walkL_exit ?_ | refine blockA_here ?_ | refine blockA_other rfl ?_ | refine blockA_ret ?_ | refine blockA_normal ?_ | refine thenA_ret ?_ | refine thenA_exit ?_ | refine thenA_normal ?_)
      refine walkL_loopS (fun (i : Nat) => [(11, .d (.i i)), (9, .d (.i (pos (i - 1)).1)), (10, .d (.i (pos (i - 1)).2)), (12, .undef), (13, .undef), (14, .undef), (15, .undef)]) (fun _ => []) (fun i => i ≤ x.route.length + 1 ∧ (i : Int) ≤ k + 2) (fun i => x.route.length + 1 - i) 0 ?_ ⟨Nat.zero_le _, by omega⟩ ?_
      · simp (maxSteps := 4000000) only [go_sem, hpos0]
        refine weak_of [] ?_ ?_ rfl rfl <;> simp [lessT, lessM, lessB, AV.less]
      · intro i ⟨hi, hik⟩
        simp (maxSteps := 4000000) only [go_sem]
        have hwk : IntKind.i64.wrap (k + 1) = k + 1 := wr_small (by omega)
        have hw : IntKind.i64.wrap ((i : Int) + 1) = ((i + 1 : Nat) : Int) := by rw [wr_small (by omega)]; simp
        by_cases hA : (i : Int) ≤ x.route.length ∧ (i : Int) ≤ k + 1
        · have hA1 : decide ((i : Int) ≤ (x.route.length : Int)) = true := by simpa using hA.1
          have hA2 : decide ((i : Int) ≤ k + 1) = true := by simpa using hA.2
          repeat (first | refine walkL_seq ?_ | refine walkL_skip ?_ | refine walkL_block ?_ | (refine walkL_region fun K hK => ?_; simp (maxSteps := 4000000) only [go_sem, hrl, hA1, hwk, hA2]; refine hK _ ?_; clear hK K) | refine walkL_nil ?_ | refine walkL_ret ?_ | refine walkL_exit ?_ | refine blockA_here ?_ | refine blockA_other rfl ?_ | refine blockA_ret ?_ | refine blockA_normal ?_ | refine thenA_ret ?_ | refine thenA_exit ?_ | refine thenA_normal ?_)
          refine walkL_true rfl ?_
          repeat (first | refine walkL_seq ?_ | refine walkL_skip ?_ | refine walkL_block ?_ | (refine walkL_region fun K hK => ?_; simp (maxSteps := 4000000) only [go_sem]; refine hK _ ?_; clear hK K) | refine walkL_nil ?_ | refine walkL_ret ?_ | refine walkL_exit ?_ | refine blockA_here ?_ | refine blockA_other rfl ?_ | refine blockA_ret ?_ | refine blockA_normal ?_ | refine thenA_ret ?_ | refine thenA_exit ?_ | refine thenA_normal ?_)
          obtain ⟨pl, hpl0⟩ : ∃ pl, pl = (pos i).1 := ⟨_, rfl⟩
          obtain ⟨at1, hat⟩ : ∃ at1, at1 = (pos i).2 := ⟨_, rfl⟩
          refine walkL_meetS [(9, .d (.i pl)), (10, .d (.i at1))] [] ?_ ?_
          · cases i with
            | zero =>
              refine walkL_cond rfl (fun hc => ?_) (fun hc => ?_)
              · simp at hc
              · repeat (first | refine walkL_seq ?_ | refine walkL_skip ?_ | refine walkL_block ?_ | (refine walkL_region fun K hK => ?_; simp (maxSteps := 4000000) only [go_sem]; refine hK _ ?_; clear hK K) | refine walkL_nil ?_ | refine walkL_ret ?_ | refine walkL_exit ?_ | refine blockA_here ?_ | refine blockA_other rfl ?_ | refine blockA_ret ?_ | refine blockA_normal ?_ | refine thenA_ret ?_ | refine thenA_exit ?_ | refine thenA_normal ?_)
                refine ⟨rfl, ?_⟩
                rw [hpl0, hat]
                simp (maxSteps := 4000000) only [go_sem]
                refine weak_of [] ?_ ?_ rfl rfl <;> simp [lessT, lessM, lessB, AV.less]
            | succ j =>
              refine walkL_cond rfl (fun hc => ?_) (fun hc => ?_)
              · obtain ⟨v, hv⟩ : ∃ v, x.route[j]? = some v := ⟨_, List.getElem?_eq_getElem (by omega)⟩
                have g1 := intRows_at hv
                have hvo := hon v (List.mem_of_getElem? hv)
                obtain ⟨hx, hxm⟩ := pathAt_mem hvo
                obtain ⟨v, rfl⟩ : ∃ j : Nat, v = (j : Int) := ⟨v.toNat, by have := hvo.1; omega⟩
                have hxg := hf.net.path _ hxm
                have hso := span_ok hxg hf.party
                have hps := hposs j _ hv
                have hst : stepF (pathAt n v) p (pos j).2 true = at1 := by
                  rw [step_arrive (hrange j).2 hso.1 hso.2.1, hat, hps]; rfl
                have hpv : (pathAt n v).to = pl := by rw [hpl0, hps]; rfl
                rw [Int.toNat_natCast] at hx
                have h35 := f35 n p v (pathAt n v) (pos j).2 true hx (by have := hs.opens _ hxm; omega)
                rw [hst, Net.cells] at h35
                obtain ⟨y, hy⟩ : ∃ y, y = pathAt n v := ⟨_, rfl⟩
                rw [← hy] at hx hpv
                have hj1 : IntKind.i64.wrap (((j + 1 : Nat) : Int) - 1) = j := by rw [wr_small (by omega)]; omega
                have hj2 : j + 1 - 1 = j := rfl
                rw [hj2]
                repeat (first | refine walkL_seq ?_ | refine walkL_skip ?_ | refine walkL_block ?_ | (refine walkL_region fun K hK => ?_; simp (maxSteps := 4000000) only [go_sem]; refine hK _ ?_; clear hK K) | refine walkL_nil ?_ | refine walkL_ret ?_ | refine walkL_exit ?_ | refine blockA_here ?_ | refine blockA_other rfl ?_ | refine blockA_ret ?_ | refine blockA_normal ?_ | refine thenA_ret ?_ | refine thenA_exit ?_ | refine thenA_normal ?_)
                refine walkL_drawn (by kernel_rfl) (by kernel_rfl) fun K hK => ?_
                simp (maxSteps := 4000000) only [go_sem, g1, hj1]
                refine ⟨_, .fn (hf := h35) (hd := rfl) (hr := .inl rfl), ?_⟩
                simp (maxSteps := 4000000) only [go_sem]
                refine ⟨by kernel_rfl, hK _ ?_⟩
                clear hK K
                repeat (first | refine walkL_seq ?_ | refine walkL_skip ?_ | refine walkL_block ?_ | (refine walkL_region fun K hK => ?_; simp (maxSteps := 4000000) only [go_sem]; refine hK _ ?_; clear hK K) | refine walkL_nil ?_ | refine walkL_ret ?_ | refine walkL_exit ?_ | refine blockA_here ?_ | refine blockA_other rfl ?_ | refine blockA_ret ?_ | refine blockA_normal ?_ | refine thenA_ret ?_ | refine thenA_exit ?_ | refine thenA_normal ?_)
                refine walkL_drawn (by kernel_rfl) (by kernel_rfl) fun K hK => ?_
                simp (maxSteps := 4000000) only [go_sem, g1, hj1, hx, List.getElem?_map, Path.row]
                refine ⟨by kernel_rfl, hK _ ?_⟩
                clear hK K
                repeat (first | refine walkL_seq ?_ | refine walkL_skip ?_ | refine walkL_block ?_ | (refine walkL_region fun K hK => ?_; simp (maxSteps := 4000000) only [go_sem]; refine hK _ ?_; clear hK K) | refine walkL_nil ?_ | refine walkL_ret ?_ | refine walkL_exit ?_ | refine blockA_here ?_ | refine blockA_other rfl ?_ | refine blockA_ret ?_ | refine blockA_normal ?_ | refine thenA_ret ?_ | refine thenA_exit ?_ | refine thenA_normal ?_)
                refine ⟨rfl, ?_⟩
                rw [← hpv]
                simp (maxSteps := 4000000) only [go_sem]
                refine weak_of [] ?_ ?_ rfl rfl <;> simp [lessT, lessM, lessB, AV.less]
              · exact absurd hc (by simp)
          · have hri := hrange i
            have hki := hk3 i
            have hki' := hk4 i
            rw [← hpl0, ← hat] at hri hki hki'
            have hdi := hd pl hri.1.1 hri.1.2
            simp (maxSteps := 4000000) only [go_sem]
            repeat (first | refine walkL_seq ?_ | refine walkL_skip ?_ | refine walkL_block ?_ | (refine walkL_region fun K hK => ?_; simp (maxSteps := 4000000) only [go_sem]; refine hK _ ?_; clear hK K) | refine walkL_nil ?_ | refine walkL_ret ?_ | refine walkL_exit ?_ | refine blockA_here ?_ | refine blockA_other rfl ?_ | refine blockA_ret ?_ | refine blockA_normal ?_ | refine thenA_ret ?_ | refine thenA_exit ?_ | refine thenA_normal ?_)
            refine walkL_cond rfl (fun hc => ?_) (fun hc => ?_)
            · have hc' : at1 > 2880 := by simpa using hc
              have hik1 : (i : Int) = k + 1 := by
                by_cases h : (i : Int) ≤ k
                · have := hki h; omega
                · omega
              have hke : ((i : Int) == k + 1) = true := by simp [hik1]
              repeat (first | refine walkL_seq ?_ | refine walkL_skip ?_ | refine walkL_block ?_ | (refine walkL_region fun K hK => ?_; simp (maxSteps := 4000000) only [go_sem, hwk, hke]; (repeat (first | (refine ⟨_, .lent (hf := f13) (hd := rfl) (hr := rfl), ?_⟩; simp (maxSteps := 4000000) only [go_sem, hwk, hke]) | (refine ⟨_, .given (hf := f13) (hd := rfl) (ha := rfl), ?_⟩; simp (maxSteps := 4000000) only [go_sem, hwk, hke]))); refine hK _ ?_; clear hK K) | refine walkL_nil ?_ | refine walkL_ret ?_ | refine walkL_exit ?_ | refine blockA_here ?_ | refine blockA_other rfl ?_ | refine blockA_ret ?_ | refine blockA_normal ?_ | refine thenA_ret ?_ | refine thenA_exit ?_ | refine thenA_normal ?_)
              simp (maxSteps := 4000000) only [go_sem]
            · have hc' : at1 ≤ 2880 := by simpa using hc
              have ho2 : openF n p [pl] [at1] = 0 := open_iff.2 ⟨hf.net, hf.party, by simpa using hri.1, by simpa using ⟨hri.2, hc'⟩⟩
              have h21 := f21 n p pl at1 hs
              have e21 : arriveL n p pl at1 = ((arrivalsL n p spanHi pl at1 (-1)).map told1, (arrivalsL n p spanLo pl at1 (-1)).map told1, 0) := by rw [arriveL, if_pos ho2]
              rw [e21] at h21
              have hcomes := (told_iff hf.net hf.party hri.1 hf.to ⟨hri.2, hc'⟩ hf.deadline).trans (comes_iff hf.net hf.party hri.1 hf.to ⟨hri.2, hc'⟩ hf.deadline)
              rw [← hby] at hcomes
              obtain ⟨arr, harr⟩ : ∃ arr, arr = arrivalsL n p spanHi pl at1 (-1) := ⟨_, rfl⟩
              have hal : arr.length = n.places.toNat := by rw [harr, arrivals_len]
              rw [← harr] at h21 hcomes
              have hto := hf.to
              have g1 : (intRows (arr.map told1))[x.to.toNat]? = some [.i (told1 (getI arr x.to))] := by
                rw [intRows_get hto.1 (by simp; omega), map_getI _ _ _ (by omega)]
              have hlen' : ((arr.length : Int) != n.places) = false := by simp; omega
              obtain ⟨av, hav⟩ : ∃ av, av = told1 (getI arr x.to) := ⟨_, rfl⟩
              rw [← hav] at g1 hcomes
              have hcb : (decide (av ≥ 0) && decide (av ≤ x.deadline)) = decide ((i : Int) ≤ k) := by
                by_cases h : (i : Int) ≤ k
                · have := hcomes.2 (hki h); simp [h, this]
                · have h' : ¬ (0 ≤ av ∧ av ≤ x.deadline) := fun h1 => by
                    have h2 := hcomes.1 h1
                    have h3 := hki' (by omega) (by omega)
                    omega
                  simp only [h, decide_false]
                  by_cases h1 : av ≥ 0
                  · have : ¬ av ≤ x.deadline := fun h2 => h' ⟨h1, h2⟩
                    simp [this]
                  · simp [h1]
              have hn3 : ((decide ((i : Int) ≤ k)) != (decide ((i : Int) ≤ k))) = false := by simp
              repeat (first | refine walkL_seq ?_ | refine walkL_skip ?_ | refine walkL_block ?_ | (refine walkL_region fun K hK => ?_; simp (maxSteps := 4000000) only [go_sem, intRows_len, hlen']; (repeat (first | (refine ⟨_, .lent (hf := h21) (hd := rfl) (hr := rfl), ?_⟩; simp (maxSteps := 4000000) only [go_sem, intRows_len, hlen']) | (refine ⟨_, .given (hf := h21) (hd := rfl) (ha := rfl), ?_⟩; simp (maxSteps := 4000000) only [go_sem, intRows_len, hlen']))); refine hK _ ?_; clear hK K) | refine walkL_nil ?_ | refine walkL_ret ?_ | refine walkL_exit ?_ | refine blockA_here ?_ | refine blockA_other rfl ?_ | refine blockA_ret ?_ | refine blockA_normal ?_ | refine thenA_ret ?_ | refine thenA_exit ?_ | refine thenA_normal ?_)
              refine walkL_false rfl ?_
              repeat (first | refine walkL_seq ?_ | refine walkL_skip ?_ | refine walkL_nil ?_ | refine walkL_ret ?_ | refine walkL_exit ?_ | refine blockA_here ?_ | refine blockA_other rfl ?_ | refine blockA_ret ?_ | refine blockA_normal ?_ | refine thenA_ret ?_ | refine thenA_exit ?_ | refine thenA_normal ?_)
              refine walkL_meetS [(15, .d (.bool (decide ((i : Int) ≤ k))))] [] ?_ ?_
              · refine walkL_drawn (by kernel_rfl) (by kernel_rfl) fun K hK => ?_
                simp (maxSteps := 4000000) only [go_sem, g1, hto.1]
                by_cases ho0 : (decide (av ≥ 0)) = true
                · simp (maxSteps := 4000000) only [go_sem, g1, hto.1, ho0]
                  refine ⟨by kernel_rfl, hK _ ?_⟩
                  clear hK K
                  refine walkL_nil ?_
                  refine thenA_normal ?_
                  refine ⟨rfl, ?_⟩
                  rw [show (decide ((i : Int) ≤ k)) = (decide (av ≤ x.deadline)) from by simp [← hcb, ho0]]
                  simp (maxSteps := 4000000) only [go_sem]
                  refine weak_of [] ?_ ?_ rfl rfl <;> simp [lessT, lessM, lessB, AV.less]
                · simp (maxSteps := 4000000) only [go_sem, g1, hto.1, ho0]
                  refine ⟨by kernel_rfl, hK _ ?_⟩
                  clear hK K
                  refine walkL_nil ?_
                  refine thenA_normal ?_
                  refine ⟨rfl, ?_⟩
                  rw [show (decide ((i : Int) ≤ k)) = (false) from by simp [← hcb, ho0]]
                  simp (maxSteps := 4000000) only [go_sem]
                  refine weak_of [] ?_ ?_ rfl rfl <;> simp [lessT, lessM, lessB, AV.less]
              simp (maxSteps := 4000000) only [go_sem]
              repeat (first | refine walkL_seq ?_ | refine walkL_skip ?_ | refine walkL_block ?_ | (refine walkL_region fun K hK => ?_; simp (maxSteps := 4000000) only [go_sem, hn3]; refine hK _ ?_; clear hK K) | refine walkL_nil ?_ | refine walkL_ret ?_ | refine walkL_exit ?_ | refine blockA_here ?_ | refine blockA_other rfl ?_ | refine blockA_ret ?_ | refine blockA_normal ?_ | refine thenA_ret ?_ | refine thenA_exit ?_ | refine thenA_normal ?_)
              refine walkL_false rfl ?_
              repeat (first | refine walkL_seq ?_ | refine walkL_skip ?_ | refine walkL_block ?_ | (refine walkL_region fun K hK => ?_; simp (maxSteps := 4000000) only [go_sem, hw]; refine hK _ ?_; clear hK K) | refine walkL_nil ?_ | refine walkL_ret ?_ | refine walkL_exit ?_ | refine blockA_here ?_ | refine blockA_other rfl ?_ | refine blockA_ret ?_ | refine blockA_normal ?_ | refine thenA_ret ?_ | refine thenA_exit ?_ | refine thenA_normal ?_)
              refine ⟨rfl, i + 1, ?_, ⟨by omega, by omega⟩, by omega⟩
              rw [hpl0, hat]
              refine weak_of [] ?_ ?_ rfl rfl <;> simp [lessT, lessM, lessB, AV.less]
        · have hA' : decide ((i : Int) ≤ (x.route.length : Int)) = false ∨ (decide ((i : Int) ≤ (x.route.length : Int)) = true ∧ decide ((i : Int) ≤ k + 1) = false) := by
            by_cases h1 : (i : Int) ≤ x.route.length
            · right; exact ⟨by simpa using h1, by simp; omega⟩
            · left; simpa using h1
          rcases hA' with hA1 | ⟨hA1, hA2⟩
          · repeat (first | refine walkL_seq ?_ | refine walkL_skip ?_ | refine walkL_block ?_ | (refine walkL_region fun K hK => ?_; simp (maxSteps := 4000000) only [go_sem, hrl, hA1]; refine hK _ ?_; clear hK K) | refine walkL_nil ?_ | refine walkL_ret ?_ | refine walkL_exit ?_ | refine blockA_here ?_ | refine blockA_other rfl ?_ | refine blockA_ret ?_ | refine blockA_normal ?_ | refine thenA_ret ?_ | refine thenA_exit ?_ | refine thenA_normal ?_)
            refine walkL_false rfl ?_
            repeat (first | refine walkL_seq ?_ | refine walkL_skip ?_ | refine walkL_block ?_ | (refine walkL_region fun K hK => ?_; simp (maxSteps := 4000000) only [go_sem]; (repeat (first | (refine ⟨_, .lent (hf := f13) (hd := rfl) (hr := rfl), ?_⟩; simp (maxSteps := 4000000) only [go_sem]) | (refine ⟨_, .given (hf := f13) (hd := rfl) (ha := rfl), ?_⟩; simp (maxSteps := 4000000) only [go_sem]))); refine hK _ ?_; clear hK K) | refine walkL_nil ?_ | refine walkL_ret ?_ | refine walkL_exit ?_ | refine blockA_here ?_ | refine blockA_other rfl ?_ | refine blockA_ret ?_ | refine blockA_normal ?_ | refine thenA_ret ?_ | refine thenA_exit ?_ | refine thenA_normal ?_)
            simp (maxSteps := 4000000) only [go_sem]
          · repeat (first | refine walkL_seq ?_ | refine walkL_skip ?_ | refine walkL_block ?_ | (refine walkL_region fun K hK => ?_; simp (maxSteps := 4000000) only [go_sem, hrl, hA1, hwk, hA2]; refine hK _ ?_; clear hK K) | refine walkL_nil ?_ | refine walkL_ret ?_ | refine walkL_exit ?_ | refine blockA_here ?_ | refine blockA_other rfl ?_ | refine blockA_ret ?_ | refine blockA_normal ?_ | refine thenA_ret ?_ | refine thenA_exit ?_ | refine thenA_normal ?_)
            refine walkL_false rfl ?_
            repeat (first | refine walkL_seq ?_ | refine walkL_skip ?_ | refine walkL_block ?_ | (refine walkL_region fun K hK => ?_; simp (maxSteps := 4000000) only [go_sem]; (repeat (first | (refine ⟨_, .lent (hf := f13) (hd := rfl) (hr := rfl), ?_⟩; simp (maxSteps := 4000000) only [go_sem]) | (refine ⟨_, .given (hf := f13) (hd := rfl) (ha := rfl), ?_⟩; simp (maxSteps := 4000000) only [go_sem]))); refine hK _ ?_; clear hK K) | refine walkL_nil ?_ | refine walkL_ret ?_ | refine walkL_exit ?_ | refine blockA_here ?_ | refine blockA_other rfl ?_ | refine blockA_ret ?_ | refine blockA_normal ?_ | refine thenA_ret ?_ | refine thenA_exit ?_ | refine thenA_normal ?_)
            simp (maxSteps := 4000000) only [go_sem]
    · have hro' : isRouteB n p x.frm x.route = false := by simpa using hro
      repeat (first | refine walkL_seq ?_ | refine walkL_skip ?_ | refine walkL_block ?_ | (refine walkL_region fun K hK => ?_; simp (maxSteps := 4000000) only [go_sem, hfit, hro']; (repeat (first | (refine ⟨_, .lent (hf := h20) (hd := rfl) (hr := rfl), ?_⟩; simp (maxSteps := 4000000) only [go_sem, hfit, hro']) | (refine ⟨_, .lent (hf := h22) (hd := rfl) (hr := rfl), ?_⟩; simp (maxSteps := 4000000) only [go_sem, hfit, hro']) | (refine ⟨_, .given (hf := h20) (hd := rfl) (ha := rfl), ?_⟩; simp (maxSteps := 4000000) only [go_sem, hfit, hro']) | (refine ⟨_, .given (hf := h22) (hd := rfl) (ha := rfl), ?_⟩; simp (maxSteps := 4000000) only [go_sem, hfit, hro']))); refine hK _ ?_; clear hK K) | refine walkL_nil ?_ | refine walkL_ret ?_ | refine walkL_exit ?_ | refine blockA_here ?_ | refine blockA_other rfl ?_ | refine blockA_ret ?_ | refine blockA_normal ?_ | refine thenA_ret ?_ | refine thenA_exit ?_ | refine thenA_normal ?_)
      refine walkL_true rfl ?_
      repeat (first | refine walkL_seq ?_ | refine walkL_skip ?_ | refine walkL_block ?_ | (refine walkL_region fun K hK => ?_; simp (maxSteps := 4000000) only [go_sem]; (repeat (first | (refine ⟨_, .lent (hf := f13) (hd := rfl) (hr := rfl), ?_⟩; simp (maxSteps := 4000000) only [go_sem]) | (refine ⟨_, .given (hf := f13) (hd := rfl) (ha := rfl), ?_⟩; simp (maxSteps := 4000000) only [go_sem]))); refine hK _ ?_; clear hK K) | refine walkL_nil ?_ | refine walkL_ret ?_ | refine walkL_exit ?_ | refine blockA_here ?_ | refine blockA_other rfl ?_ | refine blockA_ret ?_ | refine blockA_normal ?_ | refine thenA_ret ?_ | refine thenA_exit ?_ | refine thenA_normal ?_)
      simp (maxSteps := 4000000) only [go_sem]
  · have hfit' : fitsB n p x = false := by simpa using hfit
    repeat (first | refine walkL_seq ?_ | refine walkL_skip ?_ | refine walkL_block ?_ | (refine walkL_region fun K hK => ?_; simp (maxSteps := 4000000) only [go_sem, hfit']; (repeat (first | (refine ⟨_, .lent (hf := h20) (hd := rfl) (hr := rfl), ?_⟩; simp (maxSteps := 4000000) only [go_sem, hfit']) | (refine ⟨_, .given (hf := h20) (hd := rfl) (ha := rfl), ?_⟩; simp (maxSteps := 4000000) only [go_sem, hfit']))); refine hK _ ?_; clear hK K) | refine walkL_nil ?_ | refine walkL_ret ?_ | refine walkL_exit ?_ | refine blockA_here ?_ | refine blockA_other rfl ?_ | refine blockA_ret ?_ | refine blockA_normal ?_ | refine thenA_ret ?_ | refine thenA_exit ?_ | refine thenA_normal ?_)
    refine walkL_true rfl ?_
    repeat (first | refine walkL_seq ?_ | refine walkL_skip ?_ | refine walkL_block ?_ | (refine walkL_region fun K hK => ?_; simp (maxSteps := 4000000) only [go_sem]; (repeat (first | (refine ⟨_, .lent (hf := f13) (hd := rfl) (hr := rfl), ?_⟩; simp (maxSteps := 4000000) only [go_sem]) | (refine ⟨_, .given (hf := f13) (hd := rfl) (ha := rfl), ?_⟩; simp (maxSteps := 4000000) only [go_sem]))); refine hK _ ?_; clear hK K) | refine walkL_nil ?_ | refine walkL_ret ?_ | refine walkL_exit ?_ | refine blockA_here ?_ | refine blockA_other rfl ?_ | refine blockA_ret ?_ | refine blockA_normal ?_ | refine thenA_ret ?_ | refine thenA_exit ?_ | refine thenA_normal ?_)
    simp (maxSteps := 4000000) only [go_sem]
end Go.Ab
/- Plain law of layer 1: the document's table is the program's arrivals. -/
namespace Go.Ab
open Go.RowKit Go.Proofs
set_option maxHeartbeats 1000000

theorem waysFrom_in (p : Party) (but : Int) : ∀ (l : List Path) (i j : Nat) (x : Path), l[j]? = some x → ((i + j : Nat) : Int) ≠ but → x.grade ≤ p.grade → (i + j, x) ∈ waysFrom p but l i
  | [], i, j, x, h, _, _ => by simp at h
  | y :: l, i, 0, x, h, h1, h2 => by
    simp at h; subst h
    unfold waysFrom
    rw [if_pos ⟨by simpa using h1, h2⟩]
    simp
  | y :: l, i, j + 1, x, h, h1, h2 => by
    have := waysFrom_in p but l (i + 1) j x (by simpa using h) (by rw [show i + 1 + j = i + (j + 1) by omega]; exact h1) h2
    rw [show i + 1 + j = i + (j + 1) by omega] at this
    unfold waysFrom
    split
    · exact List.mem_cons_of_mem _ this
    · exact this

theorem waysL_iff {n : Net} {p : Party} {but : Int} {w : Nat × Path} : w ∈ waysL n p but ↔ n.paths[w.1]? = some w.2 ∧ w.2.grade ≤ p.grade ∧ (w.1 : Int) ≠ but := by
  constructor
  · intro h
    obtain ⟨_, h2, h3, h4⟩ := waysFrom_mem p but n.paths 0 w h
    exact ⟨by simpa using h2, h3, h4⟩
  · rintro ⟨h1, h2, h3⟩
    have := waysFrom_in p but n.paths 0 w.1 w.2 h1 (by simpa using h3) h2
    simpa [waysL] using this

/-- The end of the span that is meant. -/
def endOf (high : Bool) (s : Span) : Int := if high then s.hi else s.lo

theorem ways_end {n : Net} {p : Party} (hn : n.Good) (hp : p.Good) (but : Int) (high : Bool) : OkWs n (fun x => endOf high (spanW x p)) (waysL n p but) := by
  cases high
  · exact (ways_ok hn hp but).2
  · exact (ways_ok hn hp but).1

section
variable {n : Net} {p : Party} {high : Bool} {but frm start : Int}

def TabInv (n : Net) (p : Party) (high : Bool) (but frm start : Int) (l : List Int) : Prop :=
  l.length = n.places.toNat ∧ ∀ y, 0 ≤ y → y < n.places → getI l y = never ∨ (0 ≤ getI l y ∧ getI l y ≤ 2880 ∧ Reach (waysL n p but) (fun x => endOf high (spanW x p)) frm start y (getI l y))

theorem relaxT_eq (hn : n.Good) (hp : p.Good) {l : List Int} (h : TabInv n p high but frm start l) (w : Path × Nat) (hw : n.paths[w.2]? = some w.1) :
    (relaxT p high but l w = l ∧ ((w.2, w.1) ∉ waysL n p but ∨ getI l w.1.frm = never)) ∨
    ((w.2, w.1) ∈ waysL n p but ∧ 0 ≤ getI l w.1.frm ∧ getI l w.1.frm ≤ 2880 ∧ Reach (waysL n p but) (fun x => endOf high (spanW x p)) frm start w.1.frm (getI l w.1.frm) ∧
      relaxT p high but l w = l.set w.1.to.toNat (min (getI l w.1.to) (arriveF w.1.opens (getI l w.1.frm) (endOf high (spanW w.1 p))))) := by
  have hg := hn.path w.1 (List.mem_of_getElem? hw)
  have hv : never = 1073741824 := rfl
  have hsp := span_ok hg hp
  unfold relaxT
  by_cases hb : relaxB p but l w = true
  · right
    rw [if_pos hb]
    simp only [relaxB, Bool.and_eq_true, bne_iff_ne, ne_eq, decide_eq_true_eq] at hb
    obtain ⟨b1, b2, b3⟩ := hb
    rcases h.2 w.1.frm hg.frm.1 hg.frm.2 with h1 | ⟨h1, h2, h3⟩
    · omega
    · refine ⟨waysL_iff.2 ⟨hw, b2, b1⟩, h1, h2, h3, ?_⟩
      rw [step_arrive h1 hsp.1 hsp.2.1]
      rfl
  · left
    rw [if_neg hb]
    refine ⟨rfl, ?_⟩
    by_cases hm : (w.2, w.1) ∈ waysL n p but
    · right
      obtain ⟨q1, q2, q3⟩ := waysL_iff.1 hm
      simp only [relaxB, Bool.and_eq_true, bne_iff_ne, ne_eq, decide_eq_true_eq] at hb
      rcases h.2 w.1.frm hg.frm.1 hg.frm.2 with h1 | ⟨h1, h2, h3⟩
      · exact h1
      · exact absurd ⟨q3, q2, by omega⟩ hb
    · exact .inl hm

/-- One path of a round: what was stays true, nothing rises, and the path has its say. -/
theorem relaxT_step (hn : n.Good) (hp : p.Good) {l : List Int} (h : TabInv n p high but frm start l) (w : Path × Nat) (hw : n.paths[w.2]? = some w.1) :
    TabInv n p high but frm start (relaxT p high but l w) ∧ (∀ y, 0 ≤ y → y < n.places → getI (relaxT p high but l w) y ≤ getI l y) ∧
    ((w.2, w.1) ∈ waysL n p but → getI l w.1.frm ≠ never → getI (relaxT p high but l w) w.1.to ≤ arriveF w.1.opens (getI l w.1.frm) (endOf high (spanW w.1 p))) := by
  have hg := hn.path w.1 (List.mem_of_getElem? hw)
  have hv : never = 1073741824 := rfl
  have hok := ways_end hn hp but high
  rcases relaxT_eq hn hp h w hw with ⟨e, h1⟩ | ⟨hm, h1, h2, h3, e⟩
  · rw [e]
    exact ⟨h, fun y _ _ => Int.le_refl _, fun a b => by rcases h1 with h1 | h1; exact absurd a h1; exact absurd h1 b⟩
  · obtain ⟨_, _, w3⟩ := hok _ hm
    have w3 : okTime (endOf high (spanW w.1 p)) := w3
    have hsz : w.1.to.toNat < l.length := by have := h.1; have := hg.to; omega
    rw [e]
    refine ⟨⟨by simpa using h.1, fun y hy hyn => ?_⟩, fun y hy hyn => ?_, fun _ _ => ?_⟩
    · rw [getI_set _ _ _ _ hg.to.1 hsz hy]
      split
      · rename_i e; subst e
        rcases arrive_range (opens := w.1.opens) h1 w3 with ha | ⟨ha, ha'⟩
        · have hmin : min (getI l w.1.to) (arriveF w.1.opens (getI l w.1.frm) (endOf high (spanW w.1 p))) = getI l w.1.to := by
            rcases h.2 w.1.to hg.to.1 hg.to.2 with h4 | h4 <;> omega
          rw [hmin]
          exact h.2 _ hg.to.1 hg.to.2
        · by_cases hlt : getI l w.1.to ≤ arriveF w.1.opens (getI l w.1.frm) (endOf high (spanW w.1 p))
          · rw [Int.min_eq_left hlt]; exact h.2 _ hg.to.1 hg.to.2
          · rw [Int.min_eq_right (by omega)]
            unfold okTime at w3
            exact .inr ⟨by omega, ha', .step (w.2, w.1) h3 hm rfl ha'⟩
      · exact h.2 y hy hyn
    · rw [getI_set _ _ _ _ hg.to.1 hsz hy]
      split
      · rename_i e; subst e; omega
      · exact Int.le_refl _
    · rw [getI_set _ _ _ _ hg.to.1 hsz hg.to.1, if_pos rfl]
      omega

theorem foldT_step (hn : n.Good) (hp : p.Good) : ∀ (ws : List (Path × Nat)) (l : List Int), (∀ w ∈ ws, n.paths[w.2]? = some w.1) → TabInv n p high but frm start l →
    TabInv n p high but frm start (ws.foldl (relaxT p high but) l) ∧ (∀ y, 0 ≤ y → y < n.places → getI (ws.foldl (relaxT p high but) l) y ≤ getI l y) ∧
    ∀ w ∈ ws, (w.2, w.1) ∈ waysL n p but → getI l w.1.frm ≠ never → getI (ws.foldl (relaxT p high but) l) w.1.to ≤ arriveF w.1.opens (getI l w.1.frm) (endOf high (spanW w.1 p))
  | [], l, _, h => ⟨h, fun y _ _ => Int.le_refl _, fun w hw => by cases hw⟩
  | v :: ws, l, hs, h => by
    rw [List.foldl_cons]
    have hv : never = 1073741824 := rfl
    obtain ⟨s1, s2, s3⟩ := relaxT_step hn hp h v (hs v (by simp))
    obtain ⟨i1, i2, i3⟩ := foldT_step hn hp ws _ (fun w hw => hs w (by simp [hw])) s1
    refine ⟨i1, fun y hy hyn => Int.le_trans (i2 y hy hyn) (s2 y hy hyn), fun w hw hm hne => ?_⟩
    have hg := hn.path w.1 (List.mem_of_getElem? (hs w hw))
    rcases List.mem_cons.1 hw with rfl | hw
    · exact Int.le_trans (i2 _ hg.to.1 hg.to.2) (s3 hm hne)
    · have hle := s2 w.1.frm hg.frm.1 hg.frm.2
      have hlo : 0 ≤ getI (relaxT p high but l v) w.1.frm ∧ getI (relaxT p high but l v) w.1.frm ≠ never := by
        rcases h.2 w.1.frm hg.frm.1 hg.frm.2 with h4 | ⟨h4, h5, _⟩
        · exact absurd h4 hne
        · rcases s1.2 w.1.frm hg.frm.1 hg.frm.2 with h6 | ⟨h6, h7, _⟩ <;> omega
      refine Int.le_trans (i3 w hw hm hlo.2) ?_
      exact arrive_mono hlo.1 hle ((ways_end hn hp but high) _ hm).2.2

theorem passT_step (hn : n.Good) (hp : p.Good) (l : List Int) (h : TabInv n p high but frm start l) :
    TabInv n p high but frm start (passT n p high but l) ∧ (∀ y, 0 ≤ y → y < n.places → getI (passT n p high but l) y ≤ getI l y) ∧
    ∀ w ∈ waysL n p but, getI l w.2.frm ≠ never → getI (passT n p high but l) w.2.to ≤ arriveF w.2.opens (getI l w.2.frm) (endOf high (spanW w.2 p)) := by
  have hz : ∀ w ∈ n.paths.zipIdx, n.paths[w.2]? = some w.1 := fun w hw => by simpa using List.mk_mem_zipIdx_iff_getElem?.1 hw
  obtain ⟨i1, i2, i3⟩ := foldT_step hn hp n.paths.zipIdx l hz h
  refine ⟨i1, i2, fun w hw hne => ?_⟩
  have hget := waysL_get hw
  exact i3 (w.2, w.1) (List.mk_mem_zipIdx_iff_getElem?.2 hget) hw hne

theorem arr0_inv (hf : 0 ≤ frm ∧ frm < n.places) (hs : 0 ≤ start ∧ start ≤ 2880) : TabInv n p high but frm start (arrivals0 n frm start) ∧ getI (arrivals0 n frm start) frm = start := by
  have hl : frm.toNat < (List.replicate n.places.toNat never).length := by simp; omega
  refine ⟨⟨by simp [arrivals0], fun y hy hyn => ?_⟩, ?_⟩
  · unfold arrivals0
    rw [getI_set _ _ _ _ hf.1 hl hy]
    split
    · rename_i e; subst e; exact .inr ⟨hs.1, hs.2, .refl⟩
    · left; unfold getI; rw [List.getD_eq_getElem?_getD, List.getElem?_replicate, if_pos (by omega)]; rfl
  · unfold arrivals0; rw [getI_set _ _ _ _ hf.1 hl hf.1, if_pos rfl]

/-- How many places have a lower value. -/
def lower (m : Nat) (d : Int → Int) (y : Int) : Nat := ((List.range m).filter fun (i : Nat) => decide (d i < d y)).length

theorem lower_lt {m : Nat} {d : Int → Int} {z y : Int} (h : d z < d y) (hz : 0 ≤ z ∧ z < m) : lower m d z < lower m d y := by
  unfold lower
  have hsub : (List.range m).filter (fun (i : Nat) => decide (d i < d z)) = ((List.range m).filter (fun (i : Nat) => decide (d i < d y))).filter (fun (i : Nat) => decide (d i < d z)) := by
    rw [List.filter_filter]
    refine List.filter_congr fun i _ => ?_
    by_cases h1 : d i < d z
    · simp [h1, Int.lt_trans h1 h]
    · simp [h1]
  rw [hsub]
  refine List.length_filter_lt_length_iff_exists.2 ⟨z.toNat, ?_, ?_⟩
  · simp only [List.mem_filter, List.mem_range, decide_eq_true_eq]
    refine ⟨by omega, ?_⟩
    rw [show ((z.toNat : Nat) : Int) = z by omega]; exact h
  · rw [show ((z.toNat : Nat) : Int) = z by omega]; simp

theorem lower_le {m : Nat} {d : Int → Int} {y : Int} (hy : 0 ≤ y ∧ y < m) : lower m d y < m := by
  have : lower m d y < (List.range m).length := by
    unfold lower
    refine List.length_filter_lt_length_iff_exists.2 ⟨y.toNat, by simp; omega, ?_⟩
    rw [show ((y.toNat : Nat) : Int) = y by omega]; simp
  simpa using this

/-- The document's table is the program's arrivals. -/
theorem table_get (hn : n.Good) (hp : p.Good) (hf : 0 ≤ frm ∧ frm < n.places) (hs : 0 ≤ start ∧ start ≤ 2880) (y : Int) (hy : 0 ≤ y) (hyn : y < n.places) :
    getI (tableL n p frm start high but) y = getI (arrivalsL n p (endOf high) frm start but) y := by
  have hv : never = 1073741824 := rfl
  have hok := ways_end hn hp but high
  obtain ⟨A1, A2⟩ := arr_spec (q := endOf high) hok hf hs
  obtain ⟨D, hD⟩ : ∃ D : Int → Int, D = fun z => getI (arrivalsL n p (endOf high) frm start but) z := ⟨_, rfl⟩
  have A1' : ∀ y, 0 ≤ y → y < n.places → D y = never ∨ (0 ≤ D y ∧ D y ≤ 2880 ∧ Reach (waysL n p but) (fun x => endOf high (spanW x p)) frm start y (D y)) := by rw [hD]; exact A1
  have A2' : ∀ y t, Reach (waysL n p but) (fun x => endOf high (spanW x p)) frm start y t → D y ≤ t := by rw [hD]; exact A2
  clear A1 A2
  obtain ⟨L, hL⟩ : ∃ L : Nat → List Int, L = fun k => iterL (passT n p high but) k (arrivals0 n frm start) := ⟨_, rfl⟩
  have hL0 : L 0 = arrivals0 n frm start := by rw [hL]; rfl
  have hLs : ∀ k, L (k + 1) = passT n p high but (L k) := by intro k; rw [hL]; rfl
  have hinv : ∀ k, TabInv n p high but frm start (L k) := by
    intro k
    induction k with
    | zero => rw [hL0]; exact (arr0_inv hf hs).1
    | succ k ih => rw [hLs]; exact (passT_step hn hp _ ih).1
  have hge : ∀ k y, 0 ≤ y → y < n.places → D y ≤ getI (L k) y := by
    intro k y hy hyn
    rcases (hinv k).2 y hy hyn with h | ⟨_, _, h⟩
    · rcases A1' y hy hyn with h' | h' <;> omega
    · exact A2' y _ h
  have hfr : ∀ k, getI (L k) frm = start := by
    intro k
    have hle : getI (L k) frm ≤ start := by
      induction k with
      | zero => rw [hL0, (arr0_inv (p := p) (high := high) (but := but) hf hs).2]; exact Int.le_refl _
      | succ k ih => rw [hLs]; exact Int.le_trans ((passT_step hn hp _ (hinv k)).2.1 frm hf.1 hf.2) ih
    rcases (hinv k).2 frm hf.1 hf.2 with h | ⟨h1, h2, h3⟩
    · omega
    · have := h3.range hok hs hf; omega
  have key : ∀ k y, 0 ≤ y → y < n.places → D y ≠ never → lower n.places.toNat D y ≤ k → getI (L k) y = D y := by
    intro k
    induction k with
    | zero =>
      intro y hy hyn hne hlow
      rcases A1' y hy hyn with h | ⟨h1, h2, h3⟩
      · exact absurd h hne
      obtain ⟨dy, hdy⟩ : ∃ dy, dy = D y := ⟨_, rfl⟩
      rw [← hdy] at h3 h2 h1 ⊢
      cases h3 with
      | refl => exact hfr 0
      | @step z t w hr hm hfe hle =>
        exfalso
        have hrg := hr.range hok hs hf
        obtain ⟨_, _, w3⟩ := hok w hm
        have w3 : okTime (endOf high (spanW w.2 p)) := w3
        have hlt : D z < D w.2.to := by
          have h4 := A2' z t hr
          rcases arrive_range (opens := w.2.opens) (t := t) (by omega) w3 with h | h
          · omega
          · unfold okTime at w3; omega
        have := lower_lt (m := n.places.toNat) hlt (by omega)
        omega
    | succ k ih =>
      intro y hy hyn hne hlow
      have hge' := hge (k + 1) y hy hyn
      rcases A1' y hy hyn with h | ⟨h1, h2, h3⟩
      · exact absurd h hne
      obtain ⟨dy, hdy⟩ : ∃ dy, dy = D y := ⟨_, rfl⟩
      rw [← hdy] at h3 hge' h2 h1 ⊢
      cases h3 with
      | refl => exact hfr (k + 1)
      | @step z t w hr hm hfe hle =>
        have hrg := hr.range hok hs hf
        obtain ⟨_, _, w3⟩ := hok w hm
        have w3 : okTime (endOf high (spanW w.2 p)) := w3
        have h4 := A2' z t hr
        have hlt : D z < D w.2.to := by
          rcases arrive_range (opens := w.2.opens) (t := t) (by omega) w3 with h | h
          · omega
          · unfold okTime at w3; omega
        have hlz := lower_lt (m := n.places.toNat) hlt (by omega)
        have hDz : D z ≠ never := by omega
        have hz := ih z (by omega) (by omega) hDz (by omega)
        have hz0 : 0 ≤ D z := by rcases A1' z (by omega) (by omega) with h | h <;> omega
        have hp' := (passT_step hn hp _ (hinv k)).2.2 w hm (by rw [hfe, hz]; exact hDz)
        rw [← hLs, hfe, hz] at hp'
        have := arrive_mono (opens := w.2.opens) hz0 h4 w3
        change getI (L (k + 1)) w.2.to = arriveF w.2.opens t (endOf high (spanW w.2 p))
        change arriveF w.2.opens t (endOf high (spanW w.2 p)) ≤ _ at hge'
        omega
  have hfin : getI (L n.places.toNat) y = D y := by
    by_cases hne : D y = never
    · have h1 := hge n.places.toNat y hy hyn
      rcases (hinv n.places.toNat).2 y hy hyn with h | h
      · rw [h, hne]
      · omega
    · exact key _ y hy hyn hne (Nat.le_of_lt (lower_le (by omega)))
  rw [hL, hD] at hfin
  exact hfin

theorem getI_ext {a b : List Int} {m : Nat} (ha : a.length = m) (hb : b.length = m) (h : ∀ y : Int, 0 ≤ y → y < m → getI a y = getI b y) : a = b := by
  refine List.ext_getElem (by omega) fun i h1 h2 => ?_
  have := h i (by omega) (by omega)
  unfold getI at this
  simpa [List.getD_eq_getElem?_getD, h1, h2] using this

theorem arrivalsL_len {n : Net} {p : Party} {q : Span → Int} {frm start but : Int} (hw : OkWs n (fun x => q (spanW x p)) (waysL n p but)) (hf : 0 ≤ frm ∧ frm < n.places) (hs : 0 ≤ start ∧ start ≤ 2880) : (arrivalsL n p q frm start but).length = n.places.toNat := by
  have h0 : ArrInv n (waysL n p but) (fun x => q (spanW x p)) frm start (arrivals0 n frm start) := by
    have hl : frm.toNat < (List.replicate n.places.toNat never).length := by simp; omega
    refine ⟨by simp [arrivals0], ?_, fun y hy hyn => ?_⟩
    · unfold arrivals0; rw [getI_set _ _ _ _ hf.1 hl hf.1, if_pos rfl]; exact Int.le_refl _
    · unfold arrivals0
      rw [getI_set _ _ _ _ hf.1 hl hy]
      split
      · rename_i e; subst e; exact .inr ⟨hs.1, hs.2, .refl⟩
      · left; unfold getI; rw [List.getD_eq_getElem?_getD, List.getElem?_replicate, if_pos (by omega)]; rfl
  exact (fixA_spec hw hf (fallM (arrivals0 n frm start) + 1) (arrivals0 n frm start) (Nat.lt_succ_self _) h0).1.1

theorem table_eq (hn : n.Good) (hp : p.Good) (hf : 0 ≤ frm ∧ frm < n.places) (hs : 0 ≤ start ∧ start ≤ 2880) :
    tableL n p frm start high but = arrivalsL n p (endOf high) frm start but := by
  refine getI_ext (m := n.places.toNat) ?_ (arrivalsL_len (ways_end hn hp but high) hf hs) fun y hy hyn => table_get hn hp hf hs y hy (by omega)
  unfold tableL
  rw [iterL_len _ (passT_len n p high but)]
  simp [arrivals0]
end
end Go.Ab
namespace Go.Ab
open Go.RowKit Go.Proofs
set_option maxHeartbeats 4000000
set_option maxRecDepth 20000
attribute [local irreducible] WalkL Walk

theorem spanRows_head (l : List Span) : headIs 2 (l.map Span.row) = true := by cases l <;> rfl
theorem pathRows_head (l : List Path) : headIs 8 (l.map Path.row) = true := by cases l <;> rfl

/-- Copy returns an equal net. -/
theorem f14 (n : Net) (hs : n.Small) : Fn Try.prog 14 [.agg n.cells] (.agg n.cells) := by
  have hpl := hs.paths
  refine fn_walk 33 Try.call14 Try.func14 rfl (by decide) fun J => ?_
  simp (maxSteps := 4000000) only [go_sem, St.start, Try.ntmps14, Try.results14, Net.cells]
  repeat (first | refine walkL_seq ?_ | refine walkL_skip ?_ | refine walkL_block ?_ | (refine walkL_region fun K hK => ?_; simp (maxSteps := 4000000) only [go_sem]; refine hK _ ?_; clear hK K) | refine walkL_nil ?_ | refine walkL_ret ?_ | refine walkL_exit ?_ | refine blockA_here ?_ | refine blockA_other rfl ?_ | refine blockA_ret ?_ | refine blockA_normal ?_ | refine thenA_ret ?_ | refine thenA_exit ?_ | refine thenA_normal ?_)
  refine walkL_loopS (fun (i : Nat) => [(4, .d (.i i))]) (fun i => [(3, some (.box [.d (.i n.places), .own 30])), (30, some (.arr 49 8 ((n.paths.take i).map Path.row)))]) (fun i => i ≤ n.paths.length) (fun i => n.paths.length - i) 0 ?_ (Nat.zero_le _) ?_
  · simp (maxSteps := 4000000) only [go_sem]
    refine weak_of [30] ?_ ?_ rfl rfl <;> simp [lessT, lessM, lessB, AV.less]
  · intro i hi
    simp (maxSteps := 4000000) only [go_sem]
    repeat (first | refine walkL_seq ?_ | refine walkL_skip ?_ | refine walkL_block ?_ | (refine walkL_region fun K hK => ?_; simp (maxSteps := 4000000) only [go_sem]; refine hK _ ?_; clear hK K) | refine walkL_nil ?_ | refine walkL_ret ?_ | refine walkL_exit ?_ | refine blockA_here ?_ | refine blockA_other rfl ?_ | refine blockA_ret ?_ | refine blockA_normal ?_ | refine thenA_ret ?_ | refine thenA_exit ?_ | refine thenA_normal ?_)
    refine walkL_cond rfl (fun hb => ?_) (fun hb => ?_)
    · have hlt : i < n.paths.length := by simpa using hb
      have hw : IntKind.i64.wrap ((i : Int) + 1) = ((i + 1 : Nat) : Int) := by rw [wr_small (by omega)]; simp
      obtain ⟨x, hx⟩ : ∃ x, n.paths[i]? = some x := ⟨_, List.getElem?_eq_getElem hlt⟩
      have hxo := hs.opens x (List.mem_of_getElem? hx)
      have h1 : x.opens.length ≤ 549755813888 := by omega
      have h2 : min i n.paths.length + 1 ≤ 549755813888 := by omega
      have h3 : (n.paths.take (i + 1)).map Path.row = (n.paths.take i).map Path.row ++ [x.row] := by rw [List.take_add_one, hx]; simp
      repeat (first | refine walkL_seq ?_ | refine walkL_skip ?_ | refine walkL_block ?_ | (refine walkL_region fun K hK => ?_; simp (maxSteps := 4000000) only [go_sem, hx, List.getElem?_map, Path.row, h1, h2, spanRows_head, List.length_take, hw]; refine hK _ ?_; clear hK K) | refine walkL_nil ?_ | refine walkL_ret ?_ | refine walkL_exit ?_ | refine blockA_here ?_ | refine blockA_other rfl ?_ | refine blockA_ret ?_ | refine blockA_normal ?_ | refine thenA_ret ?_ | refine thenA_exit ?_ | refine thenA_normal ?_)
      refine ⟨rfl, i + 1, ?_, hlt, by omega⟩
      rw [h3]
      refine weak_of [] ?_ ?_ rfl rfl <;> simp [lessT, lessM, lessB, AV.less]
      first | done | rfl
    · have he : i = n.paths.length := by (have : ¬ i < n.paths.length := by simpa using hb); omega
      subst he
      repeat (first | refine walkL_seq ?_ | refine walkL_skip ?_ | refine walkL_block ?_ | (refine walkL_region fun K hK => ?_; simp (maxSteps := 4000000) only [go_sem]; refine hK _ ?_; clear hK K) | refine walkL_nil ?_ | refine walkL_ret ?_ | refine walkL_exit ?_ | refine blockA_here ?_ | refine blockA_other rfl ?_ | refine blockA_ret ?_ | refine blockA_normal ?_ | refine thenA_ret ?_ | refine thenA_exit ?_ | refine thenA_normal ?_)
      simp (maxSteps := 4000000) only [go_sem, List.take_length]

/-- .. in memory of its own. -/
theorem f14m (n : Net) (hs : n.Small) : FnG Try.prog 14 [] [] [.d (.agg n.cells)] (.agg [.d (.i n.places), .own 0]) [.arr 49 8 (n.paths.map Path.row)] := by
  have hpl := hs.paths
  refine fnG_walk 33 Try.call14 Try.func14 rfl (by decide) [30] [] (by simp only [List.length_cons, List.length_nil]; decide) (by kernel_rfl) fun J => ?_
  simp (maxSteps := 4000000) only [go_sem, St.startG, Try.ntmps14, Try.results14, List.map_cons, List.map_nil, List.range_succ,  Net.cells]
  repeat (first | refine walkL_seq ?_ | refine walkL_skip ?_ | refine walkL_block ?_ | (refine walkL_region fun K hK => ?_; simp (maxSteps := 4000000) only [go_sem]; refine hK _ ?_; clear hK K) | refine walkL_nil ?_ | refine walkL_ret ?_ | refine walkL_exit ?_ | refine blockA_here ?_ | refine blockA_other rfl ?_ | refine blockA_ret ?_ | refine blockA_normal ?_ | refine thenA_ret ?_ | refine thenA_exit ?_ | refine thenA_normal ?_)
  refine walkL_loopS (fun (i : Nat) => [(4, .d (.i i))]) (fun i => [(3, some (.box [.d (.i n.places), .own 30])), (30, some (.arr 49 8 ((n.paths.take i).map Path.row)))]) (fun i => i ≤ n.paths.length) (fun i => n.paths.length - i) 0 ?_ (Nat.zero_le _) ?_
  · simp (maxSteps := 4000000) only [go_sem]
    refine weak_of [30] ?_ ?_ rfl rfl <;> simp [lessT, lessM, lessB, AV.less]
  · intro i hi
    simp (maxSteps := 4000000) only [go_sem]
    repeat (first | refine walkL_seq ?_ | refine walkL_skip ?_ | refine walkL_block ?_ | (refine walkL_region fun K hK => ?_; simp (maxSteps := 4000000) only [go_sem]; refine hK _ ?_; clear hK K) | refine walkL_nil ?_ | refine walkL_ret ?_ | refine walkL_exit ?_ | refine blockA_here ?_ | refine blockA_other rfl ?_ | refine blockA_ret ?_ | refine blockA_normal ?_ | refine thenA_ret ?_ | refine thenA_exit ?_ | refine thenA_normal ?_)
    refine walkL_cond rfl (fun hb => ?_) (fun hb => ?_)
    · have hlt : i < n.paths.length := by simpa using hb
      have hw : IntKind.i64.wrap ((i : Int) + 1) = ((i + 1 : Nat) : Int) := by rw [wr_small (by omega)]; simp
      obtain ⟨x, hx⟩ : ∃ x, n.paths[i]? = some x := ⟨_, List.getElem?_eq_getElem hlt⟩
      have hxo := hs.opens x (List.mem_of_getElem? hx)
      have h1 : x.opens.length ≤ 549755813888 := by omega
      have h2 : min i n.paths.length + 1 ≤ 549755813888 := by omega
      have h3 : (n.paths.take (i + 1)).map Path.row = (n.paths.take i).map Path.row ++ [x.row] := by rw [List.take_add_one, hx]; simp
      repeat (first | refine walkL_seq ?_ | refine walkL_skip ?_ | refine walkL_block ?_ | (refine walkL_region fun K hK => ?_; simp (maxSteps := 4000000) only [go_sem, hx, List.getElem?_map, Path.row, h1, h2, spanRows_head, List.length_take, hw]; refine hK _ ?_; clear hK K) | refine walkL_nil ?_ | refine walkL_ret ?_ | refine walkL_exit ?_ | refine blockA_here ?_ | refine blockA_other rfl ?_ | refine blockA_ret ?_ | refine blockA_normal ?_ | refine thenA_ret ?_ | refine thenA_exit ?_ | refine thenA_normal ?_)
      refine ⟨rfl, i + 1, ?_, hlt, by omega⟩
      rw [h3]
      refine weak_of [] ?_ ?_ rfl rfl <;> simp [lessT, lessM, lessB, AV.less]
      first | done | rfl
    · have he : i = n.paths.length := by (have : ¬ i < n.paths.length := by simpa using hb); omega
      subst he
      repeat (first | refine walkL_seq ?_ | refine walkL_skip ?_ | refine walkL_block ?_ | (refine walkL_region fun K hK => ?_; simp (maxSteps := 4000000) only [go_sem]; refine hK _ ?_; clear hK K) | refine walkL_nil ?_ | refine walkL_ret ?_ | refine walkL_exit ?_ | refine blockA_here ?_ | refine blockA_other rfl ?_ | refine blockA_ret ?_ | refine blockA_normal ?_ | refine thenA_ret ?_ | refine thenA_exit ?_ | refine thenA_normal ?_)
      simp (maxSteps := 4000000) only [go_sem, List.take_length, retG]
end Go.Ab
/- Plain laws of layer 1: what the document returns is what the program returns. -/
namespace Go.Ab
open Go.RowKit Go.Proofs
set_option maxHeartbeats 1000000

theorem endOf_true : endOf true = spanHi := rfl
theorem endOf_false : endOf false = spanLo := rfl

section
variable {n : Net} {p : Party} {frm start to deadline : Int}

theorem sure_eq (hn : n.Good) (hp : p.Good) (hf : 0 ≤ frm ∧ frm < n.places) (hs : 0 ≤ start ∧ start ≤ 2880) (but : Int) : sureF n p frm start to but = getI (arrivalsL n p spanHi frm start but) to := by
  unfold sureF
  rw [table_eq hn hp hf hs, endOf_true]

theorem vital_eq : refVitalL n p frm start to deadline = vitalL n p frm start to deadline := by
  unfold refVitalL vitalL
  by_cases h : openF n p [frm, to] [start, deadline] = 0
  · have ho := open_iff.1 h
    have hf := ho.place frm (by simp)
    have hs := ho.minute start (by simp)
    simp only [sure_eq ho.net ho.party hf hs]
  · rw [if_neg h, if_neg h]

theorem within_eq : refWithinL n p frm start deadline = withinL n p frm start deadline := by
  unfold refWithinL withinL
  by_cases h : openF n p [frm] [start, deadline] = 0
  · have ho := open_iff.1 h
    have hf := ho.place frm (by simp)
    have hs := ho.minute start (by simp)
    rw [table_eq ho.net ho.party hf hs, table_eq ho.net ho.party hf hs, endOf_true, endOf_false]
  · rw [if_neg h, if_neg h]

theorem shown_told (hn : n.Good) (hp : p.Good) (hf : 0 ≤ frm ∧ frm < n.places) (hs : 0 ≤ start ∧ start ≤ 2880) (high : Bool) (but : Int) : (arrivalsL n p (endOf high) frm start but).map shown1 = (arrivalsL n p (endOf high) frm start but).map told1 := by
  have hv : never = 1073741824 := rfl
  refine List.map_congr_left fun t ht => ?_
  obtain ⟨i, hi⟩ := List.getElem?_of_mem ht
  have hlen := arrivalsL_len (p := p) (but := but) (ways_end hn hp but high) hf hs
  have hil := (List.getElem?_eq_some_iff.1 hi).1
  have hg : getI (arrivalsL n p (endOf high) frm start but) (i : Int) = t := by unfold getI; simp [List.getD_eq_getElem?_getD, hi]
  have hr := (arr_spec (q := endOf high) (but := but) (ways_end hn hp but high) hf hs).1 (i : Int) (by omega) (by omega)
  rw [hg] at hr
  unfold shown1 told1
  rcases hr with hr | ⟨h1, h2, _⟩
  · rw [if_pos (by omega), if_pos hr]
  · rw [if_neg (by omega), if_neg (by omega)]

theorem arriveL_eq : refArriveL n p frm start = arriveL n p frm start := by
  unfold refArriveL arriveL
  by_cases h : openF n p [frm] [start] = 0
  · have ho := open_iff.1 h
    have hf := ho.place frm (by simp)
    have hs := ho.minute start (by simp)
    rw [table_eq ho.net ho.party hf hs, table_eq ho.net ho.party hf hs, shown_told ho.net ho.party hf hs, shown_told ho.net ho.party hf hs, endOf_true, endOf_false]
  · rw [if_neg h, if_neg h]

theorem findDown_eq {q : Int → Bool} {D : Int} (hD : -1 ≤ D) : ∀ (k : Nat), D < k → (∀ t : Nat, t < k → q t = decide ((t : Int) ≤ D)) → findDown q k = if D = -1 then none else some D.toNat
  | 0, h, _ => by rw [if_pos (by omega)]; rfl
  | k + 1, h, hq => by
    unfold findDown
    rw [hq k (Nat.lt_succ_self k)]
    by_cases hk : (k : Int) ≤ D
    · rw [if_pos (by simpa using hk), if_neg (by omega), show D.toNat = k by omega]
    · rw [if_neg (by simpa using hk)]
      exact findDown_eq hD k (by omega) fun t ht => hq t (by omega)

theorem latest_eq : refLatestL n p frm to deadline = latestL n p frm to deadline := by
  unfold refLatestL latestL
  by_cases h : openF n p [frm, to] [deadline] = 0
  · have ho := open_iff.1 h
    have hf := ho.place frm (by simp)
    have ht := ho.place to (by simp)
    have hd := ho.minute deadline (by simp)
    rw [if_pos h, if_pos h]
    obtain ⟨d1, d2⟩ := dead_spec ho.net ho.party ht hd
    obtain ⟨D, hD⟩ : ∃ D, D = getI (deadlinesL n p to deadline) frm := ⟨_, rfl⟩
    have hD1 := d1 frm hf.1 hf.2
    rw [← hD] at hD1 ⊢
    have hDd : D ≤ deadline := by
      by_cases h0 : 0 ≤ D
      · obtain ⟨t, h1, h2⟩ := (d2 frm D hf.1 hf.2 h0 hD1.2).1 (by rw [hD]; exact Int.le_refl _)
        have := h2.range (ways_ok ho.net ho.party (-1)).1 ⟨h0, hD1.2⟩ hf
        omega
      · omega
    rw [findDown_eq (D := D) hD1.1 _ (by omega) fun t htl => ?_]
    · by_cases h1 : D = -1
      · simp [h1]
      · rw [if_neg h1, if_neg h1]
        simp only [Prod.mk.injEq, and_true]
        omega
    · have hts : 0 ≤ (t : Int) ∧ (t : Int) ≤ 2880 := by omega
      rw [sure_eq ho.net ho.party hf hts, hD]
      have := comes_iff ho.net ho.party hf ht hts hd
      simp only [this]
  · rw [if_neg h, if_neg h]
end
end Go.Ab
namespace Go.Ab
open Go.RowKit Go.Proofs
set_option maxHeartbeats 4000000
set_option maxRecDepth 20000
attribute [local irreducible] WalkL Walk

def checkTurnF (n : Net) (p : Party) (route : List Int) (frm start home deadline : Int) : Int :=
  if openF n p [frm, home] [start, deadline] = 0 then (if isRouteB n p frm route = true then 0 else 12) else openF n p [frm, home] [start, deadline]

theorem f81 (n : Net) (p : Party) (route : List Int) (frm start home deadline : Int) (hs : n.Small) (hr : route.length < 2 ^ 30) : Fn Try.prog 81 [.agg n.cells, .agg p.cells, .sl (intRows route), .i frm, .i start, .i home, .i deadline]
    (.i (checkTurnF n p route frm start home deadline)) := by
  have h52 := f52 n p [frm, home] [start, deadline] hs (by simp) (by simp)
  have h22 := f22 n p route frm hs.paths hr
  refine fn_walk 34 Try.call81 Try.func81 rfl (by decide) fun J => ?_
  simp (maxSteps := 4000000) only [go_sem, St.start, Try.ntmps81, Try.results81, Net.cells, Party.cells]
  repeat (first | refine walkL_seq ?_ | refine walkL_skip ?_ | refine walkL_block ?_ | (refine walkL_region fun K hK => ?_; simp (maxSteps := 4000000) only [go_sem]; (repeat (first | (refine ⟨_, .lent (hf := h52) (hd := rfl) (hr := rfl), ?_⟩; simp (maxSteps := 4000000) only [go_sem]) | (refine ⟨_, .given (hf := h52) (hd := rfl) (ha := rfl), ?_⟩; simp (maxSteps := 4000000) only [go_sem]))); refine hK _ ?_; clear hK K) | refine walkL_nil ?_ | refine walkL_ret ?_ | refine walkL_exit ?_ | refine blockA_here ?_ | refine blockA_other rfl ?_ | refine blockA_ret ?_ | refine blockA_normal ?_ | refine thenA_ret ?_ | refine thenA_exit ?_ | refine thenA_normal ?_)
  refine walkL_cond rfl (fun hc => ?_) (fun hc => ?_)
  · have hc : ¬ openF n p [frm, home] [start, deadline] = 0 := by simpa using hc
    repeat (first | refine walkL_seq ?_ | refine walkL_skip ?_ | refine walkL_block ?_ | (refine walkL_region fun K hK => ?_; simp (maxSteps := 4000000) only [go_sem]; refine hK _ ?_; clear hK K) | refine walkL_nil ?_ | refine walkL_ret ?_ | refine walkL_exit ?_ | refine blockA_here ?_ | refine blockA_other rfl ?_ | refine blockA_ret ?_ | refine blockA_normal ?_ | refine thenA_ret ?_ | refine thenA_exit ?_ | refine thenA_normal ?_)
    simp (maxSteps := 4000000) only [go_sem, checkTurnF, hc]
  · have hop : openF n p [frm, home] [start, deadline] = 0 := by simpa using hc
    repeat (first | refine walkL_seq ?_ | refine walkL_skip ?_ | refine walkL_block ?_ | (refine walkL_region fun K hK => ?_; simp (maxSteps := 4000000) only [go_sem]; (repeat (first | (refine ⟨_, .lent (hf := h22) (hd := rfl) (hr := rfl), ?_⟩; simp (maxSteps := 4000000) only [go_sem]) | (refine ⟨_, .given (hf := h22) (hd := rfl) (ha := rfl), ?_⟩; simp (maxSteps := 4000000) only [go_sem]))); refine hK _ ?_; clear hK K) | refine walkL_nil ?_ | refine walkL_ret ?_ | refine walkL_exit ?_ | refine blockA_here ?_ | refine blockA_other rfl ?_ | refine blockA_ret ?_ | refine blockA_normal ?_ | refine thenA_ret ?_ | refine thenA_exit ?_ | refine thenA_normal ?_)
    refine walkL_cond rfl (fun hc => ?_) (fun hc => ?_)
    · have hc : isRouteB n p frm route = false := by simpa using hc
      repeat (first | refine walkL_seq ?_ | refine walkL_skip ?_ | refine walkL_block ?_ | (refine walkL_region fun K hK => ?_; simp (maxSteps := 4000000) only [go_sem]; refine hK _ ?_; clear hK K) | refine walkL_nil ?_ | refine walkL_ret ?_ | refine walkL_exit ?_ | refine blockA_here ?_ | refine blockA_other rfl ?_ | refine blockA_ret ?_ | refine blockA_normal ?_ | refine thenA_ret ?_ | refine thenA_exit ?_ | refine thenA_normal ?_)
      simp (maxSteps := 4000000) only [go_sem, checkTurnF, hop, hc]
    · have hc : isRouteB n p frm route = true := by simpa using hc
      repeat (first | refine walkL_seq ?_ | refine walkL_skip ?_ | refine walkL_block ?_ | (refine walkL_region fun K hK => ?_; simp (maxSteps := 4000000) only [go_sem]; refine hK _ ?_; clear hK K) | refine walkL_nil ?_ | refine walkL_ret ?_ | refine walkL_exit ?_ | refine blockA_here ?_ | refine blockA_other rfl ?_ | refine blockA_ret ?_ | refine blockA_normal ?_ | refine thenA_ret ?_ | refine thenA_exit ?_ | refine thenA_normal ?_)
      simp (maxSteps := 4000000) only [go_sem, checkTurnF, hop, hc]

/-- A minute on a route is a minute, or never. -/
theorem posR_top {n : Net} {p : Party} (hn : n.Good) (hp : p.Good) {l : List Int} (hl : ∀ v ∈ l, onNet n v) {s : Int × Int} (h1 : 0 ≤ s.1 ∧ s.1 < n.places) (h2 : 0 ≤ s.2 ∧ s.2 ≤ 2880) : ∀ i, (posR n p s l i).2 = never ∨ (posR n p s l i).2 ≤ 2880
  | 0 => .inr h2.2
  | i + 1 => by
    cases hv : l[i]? with
    | none =>
      have : posR n p s l (i + 1) = posR n p s l i := by
        unfold posR
        rw [List.take_add_one, hv]; simp
      rw [this]
      exact posR_top hn hp hl h1 h2 i
    | some v =>
      rw [posR_succ hv]
      obtain ⟨e1, e2⟩ := pathAt_mem (hl v (List.mem_of_getElem? hv))
      rcases arrive_range (opens := (pathAt n v).opens) (posR_range hn hp hl h1 h2.1 i).2 (span_ok (hn.path _ e2) hp).1 with h | h
      · exact .inl h
      · exact .inr h.2

theorem f39 (n : Net) (p : Party) (route : List Int) (frm start home deadline : Int) (hs : n.Small) (hr : route.length < 2 ^ 30) : Fn Try.prog 39 [.agg n.cells, .agg p.cells, .sl (intRows route), .i frm, .i start, .i home, .i deadline]
    (.tup [.i (turnL n p route frm start home deadline).1, .i (turnL n p route frm start home deadline).2]) := by
  have h81 := f81 n p route frm start home deadline hs hr
  have hrl := intRows_len route
  refine fn_walk 73 Try.call39 Try.func39 rfl (by decide) fun J => ?_
  simp (maxSteps := 4000000) only [go_sem, St.start, Try.ntmps39, Try.results39, Net.cells, Party.cells]
  repeat (first | refine walkL_seq ?_ | refine walkL_skip ?_ | refine walkL_block ?_ | (refine walkL_region fun K hK => ?_; simp (maxSteps := 4000000) only [go_sem]; (repeat (first | (refine ⟨_, .lent (hf := h81) (hd := rfl) (hr := rfl), ?_⟩; simp (maxSteps := 4000000) only [go_sem]) | (refine ⟨_, .given (hf := h81) (hd := rfl) (ha := rfl), ?_⟩; simp (maxSteps := 4000000) only [go_sem]))); refine hK _ ?_; clear hK K) | refine walkL_nil ?_ | refine walkL_ret ?_ | refine walkL_exit ?_ | refine blockA_here ?_ | refine blockA_other rfl ?_ | refine blockA_ret ?_ | refine blockA_normal ?_ | refine thenA_ret ?_ | refine thenA_exit ?_ | refine thenA_normal ?_)
  refine walkL_cond rfl (fun hc => ?_) (fun hc => ?_)
  · have hc : checkTurnF n p route frm start home deadline ≠ 0 := by simpa using hc
    have e : turnL n p route frm start home deadline = (0, checkTurnF n p route frm start home deadline) := by
      unfold checkTurnF at hc ⊢
      unfold turnL
      split
      · rename_i h1
        rw [if_pos h1] at hc
        split
        · rename_i h2; rw [if_pos h2] at hc; exact absurd rfl hc
        · rename_i h2; simp
      · rename_i h1; simp
    repeat (first | refine walkL_seq ?_ | refine walkL_skip ?_ | refine walkL_block ?_ | (refine walkL_region fun K hK => ?_; simp (maxSteps := 4000000) only [go_sem]; refine hK _ ?_; clear hK K) | refine walkL_nil ?_ | refine walkL_ret ?_ | refine walkL_exit ?_ | refine blockA_here ?_ | refine blockA_other rfl ?_ | refine blockA_ret ?_ | refine blockA_normal ?_ | refine thenA_ret ?_ | refine thenA_exit ?_ | refine thenA_normal ?_)
    simp (maxSteps := 4000000) only [go_sem, e]
  · have hc : checkTurnF n p route frm start home deadline = 0 := by simpa using hc
    have hop : openF n p [frm, home] [start, deadline] = 0 := by
      unfold checkTurnF at hc
      split at hc
      · assumption
      · exact hc
    have hro : isRouteB n p frm route = true := by
      unfold checkTurnF at hc
      rw [if_pos hop] at hc
      split at hc
      · assumption
      · cases hc
    have ho := open_iff.1 hop
    have hfr := ho.place frm (by simp)
    have hto := ho.place home (by simp)
    have hst := ho.minute start (by simp)
    have hdl := ho.minute deadline (by simp)
    obtain ⟨k, hk0, hk1, hk2, hk3, hk4⟩ := turnL_spec hop hro
    have hon := isRoute_on hro
    have hrange := posR_range ho.net ho.party hon (s := (frm, start)) hfr hst.1
    have htop := posR_top ho.net ho.party hon (s := (frm, start)) hfr hst
    obtain ⟨pos, hpos⟩ : ∃ pos, pos = posR n p (frm, start) route := ⟨_, rfl⟩
    have hposs : ∀ (i : Nat) v, route[i]? = some v → pos (i + 1) = goOn n p (pos i) v := fun i v h => hpos ▸ posR_succ h
    have hpose : ∀ (i : Nat), route[i]? = none → pos (i + 1) = pos i := fun i h => by
      rw [hpos]; unfold posR; rw [List.take_add_one, h]; simp
    have hpos0 : pos 0 = (frm, start) := by rw [hpos]; rfl
    rw [← hpos] at hk3 hk4 hrange htop
    obtain ⟨by1, hby⟩ : ∃ by1, by1 = deadlinesL n p home deadline := ⟨_, rfl⟩
    rw [← hby] at hk3 hk4
    have hd := (dead_spec ho.net ho.party hto hdl).1
    rw [← hby] at hd
    have hv : never = 1073741824 := rfl
    have hsure : ∀ i, (pos i).2 ≤ 2880 → (sureF n p (pos i).1 (pos i).2 home (-1) ≤ deadline ↔ (pos i).2 ≤ getI by1 (pos i).1) := fun i h => by
      rw [sure_eq ho.net ho.party (hrange i).1 ⟨(hrange i).2, h⟩, hby]
      exact comes_iff ho.net ho.party (hrange i).1 hto ⟨(hrange i).2, h⟩ hdl
    have h55 := fun i => f55 n p (pos i).1 (pos i).2 home (-1) ho.net.ok (hrange i).1 hto
    rw [hk0]
    repeat (first | refine walkL_seq ?_ | refine walkL_skip ?_ | refine walkL_block ?_ | (refine walkL_region fun K hK => ?_; simp (maxSteps := 4000000) only [go_sem]; refine hK _ ?_; clear hK K) | refine walkL_nil ?_ | refine walkL_ret ?_ | refine walkL_exit ?_ | refine blockA_here ?_ | refine blockA_other rfl ?_ | refine blockA_ret ?_ | refine blockA_normal ?_ | refine thenA_ret ?_ | refine thenA_exit ?_ | refine thenA_normal ?_)
    refine walkL_loopS (fun (j : Nat) => [(18, .d (.i ((j : Int) - 1))), (3, .d (.i (pos j).1)), (17, .d (.i (pos j).2))]) (fun _ => []) (fun j => j ≤ route.length + 1 ∧ (j : Int) ≤ k + 1) (fun j => route.length + 1 - j) 0 ?_ ⟨Nat.zero_le _, by omega⟩ ?_
    · simp (maxSteps := 4000000) only [go_sem, hpos0]
      refine weak_of [] ?_ ?_ rfl rfl <;> simp [lessT, lessM, lessB, AV.less]
    · intro j ⟨hj, hjk⟩
      have hsj := hsure j
      have h55j := h55 j
      have hrj := hrange j
      have htj := htop j
      have hk3j := hk3 j
      have hk4j := hk4 j
      simp (maxSteps := 4000000) only [go_sem]
      by_cases hA : (j : Int) ≤ k
      · have hA1 : decide ((j : Int) - 1 < (route.length : Int)) = true := by simp; omega
        have hle := hk3j hA
        have hdj := hd (pos j).1 hrj.1.1 hrj.1.2
        have hA2 : decide ((pos j).2 < 1073741824) = true := by simp; omega
        have hA3 : decide (sureF n p (pos j).1 (pos j).2 home (-1) ≤ deadline) = true := by simpa using (hsj (by omega)).2 hle
        have hw : IntKind.i64.wrap ((j : Int) - 1 + 1) = (j : Int) := by rw [wr_small (by omega)]; omega
        repeat (first | refine walkL_seq ?_ | refine walkL_skip ?_ | refine walkL_block ?_ | (refine walkL_region fun K hK => ?_; simp (maxSteps := 4000000) only [go_sem, hrl, hA1, hA2, hA3, hw]; (repeat (first | (refine ⟨_, .lent (hf := h55j) (hd := rfl) (hr := rfl), ?_⟩; simp (maxSteps := 4000000) only [go_sem, hrl, hA1, hA2, hA3, hw]) | (refine ⟨_, .given (hf := h55j) (hd := rfl) (ha := rfl), ?_⟩; simp (maxSteps := 4000000) only [go_sem, hrl, hA1, hA2, hA3, hw]))); refine hK _ ?_; clear hK K) | refine walkL_nil ?_ | refine walkL_ret ?_ | refine walkL_exit ?_ | refine blockA_here ?_ | refine blockA_other rfl ?_ | refine blockA_ret ?_ | refine blockA_normal ?_ | refine thenA_ret ?_ | refine thenA_exit ?_ | refine thenA_normal ?_)
        refine walkL_true rfl ?_
        repeat (first | refine walkL_seq ?_ | refine walkL_skip ?_ | refine walkL_block ?_ | (refine walkL_region fun K hK => ?_; simp (maxSteps := 4000000) only [go_sem, hrl, hw]; refine hK _ ?_; clear hK K) | refine walkL_nil ?_ | refine walkL_ret ?_ | refine walkL_exit ?_ | refine blockA_here ?_ | refine blockA_other rfl ?_ | refine blockA_ret ?_ | refine blockA_normal ?_ | refine thenA_ret ?_ | refine thenA_exit ?_ | refine thenA_normal ?_)
        refine walkL_cond rfl (fun hc => ?_) (fun hc => ?_)
        · have hlt : j < route.length := by simpa using hc
          obtain ⟨v, hv⟩ : ∃ v, route[j]? = some v := ⟨_, List.getElem?_eq_getElem hlt⟩
          have g1 := intRows_at hv
          have hvo := hon v (List.mem_of_getElem? hv)
          obtain ⟨hx, hxm⟩ := pathAt_mem hvo
          obtain ⟨v, rfl⟩ : ∃ i : Nat, v = (i : Int) := ⟨v.toNat, by have := hvo.1; omega⟩
          have hso := span_ok (ho.net.path _ hxm) ho.party
          have hps := hposs j _ hv
          obtain ⟨pl, hpl0⟩ : ∃ pl, pl = (pos (j + 1)).1 := ⟨_, rfl⟩
          obtain ⟨at1, hat⟩ : ∃ at1, at1 = (pos (j + 1)).2 := ⟨_, rfl⟩
          have hst : stepF (pathAt n v) p (pos j).2 true = at1 := by
            rw [step_arrive hrj.2 hso.1 hso.2.1, hat, hps]; rfl
          have hpv : (pathAt n v).to = pl := by rw [hpl0, hps]; rfl
          rw [Int.toNat_natCast] at hx
          have h35 := f35 n p v (pathAt n v) (pos j).2 true hx (by have := hs.opens _ hxm; omega)
          rw [hst, Net.cells] at h35
          obtain ⟨y, hy⟩ : ∃ y, y = pathAt n v := ⟨_, rfl⟩
          rw [← hy] at hx hpv
          repeat (first | refine walkL_seq ?_ | refine walkL_skip ?_ | refine walkL_block ?_ | (refine walkL_region fun K hK => ?_; simp (maxSteps := 4000000) only [go_sem]; refine hK _ ?_; clear hK K) | refine walkL_nil ?_ | refine walkL_ret ?_ | refine walkL_exit ?_ | refine blockA_here ?_ | refine blockA_other rfl ?_ | refine blockA_ret ?_ | refine blockA_normal ?_ | refine thenA_ret ?_ | refine thenA_exit ?_ | refine thenA_normal ?_)
          refine walkL_drawn (by kernel_rfl) (by kernel_rfl) fun K hK => ?_
          simp (maxSteps := 4000000) only [go_sem, g1]
          refine ⟨_, .fn (hf := h35) (hd := rfl) (hr := .inl rfl), ?_⟩
          simp (maxSteps := 4000000) only [go_sem]
          refine ⟨by kernel_rfl, hK _ ?_⟩
          clear hK K
          repeat (first | refine walkL_seq ?_ | refine walkL_skip ?_ | refine walkL_block ?_ | (refine walkL_region fun K hK => ?_; simp (maxSteps := 4000000) only [go_sem]; refine hK _ ?_; clear hK K) | refine walkL_nil ?_ | refine walkL_ret ?_ | refine walkL_exit ?_ | refine blockA_here ?_ | refine blockA_other rfl ?_ | refine blockA_ret ?_ | refine blockA_normal ?_ | refine thenA_ret ?_ | refine thenA_exit ?_ | refine thenA_normal ?_)
          refine walkL_drawn (by kernel_rfl) (by kernel_rfl) fun K hK => ?_
          simp (maxSteps := 4000000) only [go_sem, g1, hx, List.getElem?_map, Path.row]
          refine ⟨by kernel_rfl, hK _ ?_⟩
          clear hK K
          repeat (first | refine walkL_seq ?_ | refine walkL_skip ?_ | refine walkL_block ?_ | (refine walkL_region fun K hK => ?_; simp (maxSteps := 4000000) only [go_sem]; refine hK _ ?_; clear hK K) | refine walkL_nil ?_ | refine walkL_ret ?_ | refine walkL_exit ?_ | refine blockA_here ?_ | refine blockA_other rfl ?_ | refine blockA_ret ?_ | refine blockA_normal ?_ | refine thenA_ret ?_ | refine thenA_exit ?_ | refine thenA_normal ?_)
          refine ⟨rfl, j + 1, ?_, ⟨by omega, by omega⟩, by omega⟩
          rw [← hpl0, ← hat, ← hpv, show ((j + 1 : Nat) : Int) - 1 = (j : Int) by omega]
          refine weak_of [] ?_ ?_ rfl rfl <;> simp [lessT, lessM, lessB, AV.less]
        · have hlt : ¬ j < route.length := by simpa using hc
          repeat (first | refine walkL_seq ?_ | refine walkL_skip ?_ | refine walkL_block ?_ | (refine walkL_region fun K hK => ?_; simp (maxSteps := 4000000) only [go_sem]; refine hK _ ?_; clear hK K) | refine walkL_nil ?_ | refine walkL_ret ?_ | refine walkL_exit ?_ | refine blockA_here ?_ | refine blockA_other rfl ?_ | refine blockA_ret ?_ | refine blockA_normal ?_ | refine thenA_ret ?_ | refine thenA_exit ?_ | refine thenA_normal ?_)
          refine ⟨rfl, j + 1, ?_, ⟨by omega, by omega⟩, by omega⟩
          rw [hpose j (by simp; omega), show ((j + 1 : Nat) : Int) - 1 = (j : Int) by omega]
          refine weak_of [] ?_ ?_ rfl rfl <;> simp [lessT, lessM, lessB, AV.less]
      · have hjk1 : (j : Int) - 1 = k := by omega
        by_cases hB : (j : Int) - 1 < (route.length : Int)
        · have hA1 : decide ((j : Int) - 1 < (route.length : Int)) = true := by simpa using hB
          have hgt := hk4j (by omega) (by omega)
          rcases htj with htj | htj
          · have hA2 : decide ((pos j).2 < 1073741824) = false := by simp; omega
            repeat (first | refine walkL_seq ?_ | refine walkL_skip ?_ | refine walkL_block ?_ | (refine walkL_region fun K hK => ?_; simp (maxSteps := 4000000) only [go_sem, hrl, hA1, hA2]; refine hK _ ?_; clear hK K) | refine walkL_nil ?_ | refine walkL_ret ?_ | refine walkL_exit ?_ | refine blockA_here ?_ | refine blockA_other rfl ?_ | refine blockA_ret ?_ | refine blockA_normal ?_ | refine thenA_ret ?_ | refine thenA_exit ?_ | refine thenA_normal ?_)
            refine walkL_false rfl ?_
            repeat (first | refine walkL_seq ?_ | refine walkL_skip ?_ | refine walkL_block ?_ | (refine walkL_region fun K hK => ?_; simp (maxSteps := 4000000) only [go_sem]; refine hK _ ?_; clear hK K) | refine walkL_nil ?_ | refine walkL_ret ?_ | refine walkL_exit ?_ | refine blockA_here ?_ | refine blockA_other rfl ?_ | refine blockA_ret ?_ | refine blockA_normal ?_ | refine thenA_ret ?_ | refine thenA_exit ?_ | refine thenA_normal ?_)
            simp (maxSteps := 4000000) only [go_sem, hjk1]
          · have hA2 : decide ((pos j).2 < 1073741824) = true := by simp; omega
            have hA3 : decide (sureF n p (pos j).1 (pos j).2 home (-1) ≤ deadline) = false := by
              simp only [decide_eq_false_iff_not]
              intro h
              have := (hsj htj).1 h
              omega
            repeat (first | refine walkL_seq ?_ | refine walkL_skip ?_ | refine walkL_block ?_ | (refine walkL_region fun K hK => ?_; simp (maxSteps := 4000000) only [go_sem, hrl, hA1, hA2, hA3]; (repeat (first | (refine ⟨_, .lent (hf := h55j) (hd := rfl) (hr := rfl), ?_⟩; simp (maxSteps := 4000000) only [go_sem, hrl, hA1, hA2, hA3]) | (refine ⟨_, .given (hf := h55j) (hd := rfl) (ha := rfl), ?_⟩; simp (maxSteps := 4000000) only [go_sem, hrl, hA1, hA2, hA3]))); refine hK _ ?_; clear hK K) | refine walkL_nil ?_ | refine walkL_ret ?_ | refine walkL_exit ?_ | refine blockA_here ?_ | refine blockA_other rfl ?_ | refine blockA_ret ?_ | refine blockA_normal ?_ | refine thenA_ret ?_ | refine thenA_exit ?_ | refine thenA_normal ?_)
            refine walkL_false rfl ?_
            repeat (first | refine walkL_seq ?_ | refine walkL_skip ?_ | refine walkL_block ?_ | (refine walkL_region fun K hK => ?_; simp (maxSteps := 4000000) only [go_sem]; refine hK _ ?_; clear hK K) | refine walkL_nil ?_ | refine walkL_ret ?_ | refine walkL_exit ?_ | refine blockA_here ?_ | refine blockA_other rfl ?_ | refine blockA_ret ?_ | refine blockA_normal ?_ | refine thenA_ret ?_ | refine thenA_exit ?_ | refine thenA_normal ?_)
            simp (maxSteps := 4000000) only [go_sem, hjk1]
        · have hA1 : decide ((j : Int) - 1 < (route.length : Int)) = false := by simpa using hB
          repeat (first | refine walkL_seq ?_ | refine walkL_skip ?_ | refine walkL_block ?_ | (refine walkL_region fun K hK => ?_; simp (maxSteps := 4000000) only [go_sem, hrl, hA1]; refine hK _ ?_; clear hK K) | refine walkL_nil ?_ | refine walkL_ret ?_ | refine walkL_exit ?_ | refine blockA_here ?_ | refine blockA_other rfl ?_ | refine blockA_ret ?_ | refine blockA_normal ?_ | refine thenA_ret ?_ | refine thenA_exit ?_ | refine thenA_normal ?_)
          refine walkL_false rfl ?_
          repeat (first | refine walkL_seq ?_ | refine walkL_skip ?_ | refine walkL_block ?_ | (refine walkL_region fun K hK => ?_; simp (maxSteps := 4000000) only [go_sem]; refine hK _ ?_; clear hK K) | refine walkL_nil ?_ | refine walkL_ret ?_ | refine walkL_exit ?_ | refine blockA_here ?_ | refine blockA_other rfl ?_ | refine blockA_ret ?_ | refine blockA_normal ?_ | refine thenA_ret ?_ | refine thenA_exit ?_ | refine thenA_normal ?_)
          simp (maxSteps := 4000000) only [go_sem, hjk1]
end Go.Ab
namespace Go.Ab
open Go.RowKit Go.Proofs
set_option maxHeartbeats 4000000
set_option maxRecDepth 20000
attribute [local irreducible] WalkL Walk

theorem vitalL_len (n : Net) (p : Party) (frm start to deadline : Int) : (vitalL n p frm start to deadline).1.length ≤ n.paths.length := by
  unfold vitalL
  split
  · split
    · simp
    · exact selL_len _ _
  · simp

theorem withinL_len (n : Net) (p : Party) (frm start deadline : Int) : (withinL n p frm start deadline).1.length < 2 ^ 30 ∧ (withinL n p frm start deadline).2.1.length < 2 ^ 30 := by
  unfold withinL
  split
  · rename_i h
    have hpl := (open_iff.1 h).net.places
    have h1 := untilL_len deadline (arrivalsL n p spanHi frm start (-1))
    have h2 := untilL_len deadline (arrivalsL n p spanLo frm start (-1))
    rw [arrivals_len] at h1 h2
    constructor <;> dsimp only <;> omega
  · simp

theorem f17same (l : List Int) (h : l.length < 2 ^ 30) : Fn Try.prog 17 [.sl (intRows l), .sl (intRows l)] (.bool true) := by
  have := f17 l l h
  simpa using this

theorem f11 (n : Net) (p : Party) (x : Trip) (hs : n.Small) (hr : x.route.length < 2 ^ 30) : Fn Try.prog 11 [.agg n.cells, .agg p.cells, .agg x.row] (.bool true) := by
  have h12 := f12 n hs
  have h14 := f14 n hs
  rw [Net.cells] at h14
  have hrl := intRows_len x.route
  have hrh := intRows_head x.route
  have h31 := f31 n p x.frm x.start x.to x.deadline hs
  have h36 := f36 n p x.frm x.start x.to x.deadline hs
  have h37 := f37 n p x.frm x.start x.deadline hs
  have h38 := f38 n p x.frm x.start x.deadline hs
  have h34 := f34 n p x.route x.frm x.start x.to x.deadline hs hr
  have h39 := f39 n p x.route x.frm x.start x.to x.deadline hs hr
  rw [vital_eq] at h36
  rw [within_eq] at h38
  have hvl := vitalL_len n p x.frm x.start x.to x.deadline
  have hwl := withinL_len n p x.frm x.start x.deadline
  obtain ⟨v, hv⟩ : ∃ v, v = vitalL n p x.frm x.start x.to x.deadline := ⟨_, rfl⟩
  obtain ⟨w, hw⟩ : ∃ w, w = withinL n p x.frm x.start x.deadline := ⟨_, rfl⟩
  obtain ⟨k, hk⟩ : ∃ k, k = turnL n p x.route x.frm x.start x.to x.deadline := ⟨_, rfl⟩
  rw [← hv] at h31 h36 hvl
  rw [← hw] at h37 h38 hwl
  rw [← hk] at h34 h39
  have hps := hs.paths
  have e1 := f17same v.1 (by omega)
  have e2 := f17same w.1 hwl.1
  have e3 := f17same w.2.1 hwl.2
  have n1 : (v.2 != v.2) = false := by simp
  have n2 : (w.2.2 != w.2.2) = false := by simp
  have n3 : (k.1 == k.1) = true := by simp
  have n4 : (k.2 == k.2) = true := by simp
  have hal : x.route.length ≤ 549755813888 := by omega
  refine fn_walk 152 Try.call11 Try.func11 rfl (by decide) fun J => ?_
  simp (maxSteps := 4000000) only [go_sem, St.start, Try.ntmps11, Try.results11, Net.cells, Party.cells, Trip.row]
  by_cases hfar : farB n = true
  · repeat (first | refine walkL_seq ?_ | refine walkL_skip ?_ | refine walkL_block ?_ | (refine walkL_region fun K hK => ?_; simp (maxSteps := 4000000) only [go_sem, hfar]; (repeat (first | (refine ⟨_, .lent (hf := h12) (hd := rfl) (hr := rfl), ?_⟩; simp (maxSteps := 4000000) only [go_sem, hfar]) | (refine ⟨_, .given (hf := h12) (hd := rfl) (ha := rfl), ?_⟩; simp (maxSteps := 4000000) only [go_sem, hfar]))); refine hK _ ?_; clear hK K) | refine walkL_nil ?_ | refine walkL_ret ?_ | refine walkL_exit ?_ | refine blockA_here ?_ | refine blockA_other rfl ?_ | refine blockA_ret ?_ | refine blockA_normal ?_ | refine thenA_ret ?_ | refine thenA_exit ?_ | refine thenA_normal ?_)
    refine walkL_true rfl ?_
    repeat (first | refine walkL_seq ?_ | refine walkL_skip ?_ | refine walkL_block ?_ | (refine walkL_region fun K hK => ?_; simp (maxSteps := 4000000) only [go_sem]; (repeat (first | (refine ⟨_, .lent (hf := f13) (hd := rfl) (hr := rfl), ?_⟩; simp (maxSteps := 4000000) only [go_sem]) | (refine ⟨_, .given (hf := f13) (hd := rfl) (ha := rfl), ?_⟩; simp (maxSteps := 4000000) only [go_sem]))); refine hK _ ?_; clear hK K) | refine walkL_nil ?_ | refine walkL_ret ?_ | refine walkL_exit ?_ | refine blockA_here ?_ | refine blockA_other rfl ?_ | refine blockA_ret ?_ | refine blockA_normal ?_ | refine thenA_ret ?_ | refine thenA_exit ?_ | refine thenA_normal ?_)
    simp (maxSteps := 4000000) only [go_sem]
  · have hfar' : farB n = false := by simpa using hfar
    by_cases hl : (x.route.length : Int) > 60
    · have hl' : decide ((x.route.length : Int) > 60) = true := by simpa using hl
      repeat (first | refine walkL_seq ?_ | refine walkL_skip ?_ | refine walkL_block ?_ | (refine walkL_region fun K hK => ?_; simp (maxSteps := 4000000) only [go_sem, hfar', hrl, hl']; (repeat (first | (refine ⟨_, .lent (hf := h12) (hd := rfl) (hr := rfl), ?_⟩; simp (maxSteps := 4000000) only [go_sem, hfar', hrl, hl']) | (refine ⟨_, .given (hf := h12) (hd := rfl) (ha := rfl), ?_⟩; simp (maxSteps := 4000000) only [go_sem, hfar', hrl, hl']))); refine hK _ ?_; clear hK K) | refine walkL_nil ?_ | refine walkL_ret ?_ | refine walkL_exit ?_ | refine blockA_here ?_ | refine blockA_other rfl ?_ | refine blockA_ret ?_ | refine blockA_normal ?_ | refine thenA_ret ?_ | refine thenA_exit ?_ | refine thenA_normal ?_)
      refine walkL_true rfl ?_
      repeat (first | refine walkL_seq ?_ | refine walkL_skip ?_ | refine walkL_block ?_ | (refine walkL_region fun K hK => ?_; simp (maxSteps := 4000000) only [go_sem]; (repeat (first | (refine ⟨_, .lent (hf := f13) (hd := rfl) (hr := rfl), ?_⟩; simp (maxSteps := 4000000) only [go_sem]) | (refine ⟨_, .given (hf := f13) (hd := rfl) (ha := rfl), ?_⟩; simp (maxSteps := 4000000) only [go_sem]))); refine hK _ ?_; clear hK K) | refine walkL_nil ?_ | refine walkL_ret ?_ | refine walkL_exit ?_ | refine blockA_here ?_ | refine blockA_other rfl ?_ | refine blockA_ret ?_ | refine blockA_normal ?_ | refine thenA_ret ?_ | refine thenA_exit ?_ | refine thenA_normal ?_)
      simp (maxSteps := 4000000) only [go_sem]
    · have hl' : decide ((x.route.length : Int) > 60) = false := by simpa using hl
      repeat (first | refine walkL_seq ?_ | refine walkL_skip ?_ | refine walkL_block ?_ | (refine walkL_region fun K hK => ?_; simp (maxSteps := 4000000) only [go_sem, hfar', hrl, hl']; (repeat (first | (refine ⟨_, .lent (hf := h12) (hd := rfl) (hr := rfl), ?_⟩; simp (maxSteps := 4000000) only [go_sem, hfar', hrl, hl']) | (refine ⟨_, .given (hf := h12) (hd := rfl) (ha := rfl), ?_⟩; simp (maxSteps := 4000000) only [go_sem, hfar', hrl, hl']))); refine hK _ ?_; clear hK K) | refine walkL_nil ?_ | refine walkL_ret ?_ | refine walkL_exit ?_ | refine blockA_here ?_ | refine blockA_other rfl ?_ | refine blockA_ret ?_ | refine blockA_normal ?_ | refine thenA_ret ?_ | refine thenA_exit ?_ | refine thenA_normal ?_)
      refine walkL_false rfl ?_
      repeat (first | refine walkL_seq ?_ | refine walkL_skip ?_ | refine walkL_block ?_ | (refine walkL_region fun K hK => ?_; simp (maxSteps := 4000000) only [go_sem, n1]; (repeat (first | (refine ⟨_, .lent (hf := h14) (hd := rfl) (hr := rfl), ?_⟩; simp (maxSteps := 4000000) only [go_sem, n1]) | (refine ⟨_, .lent (hf := h31) (hd := rfl) (hr := rfl), ?_⟩; simp (maxSteps := 4000000) only [go_sem, n1]) | (refine ⟨_, .lent (hf := h36) (hd := rfl) (hr := rfl), ?_⟩; simp (maxSteps := 4000000) only [go_sem, n1]) | (refine ⟨_, .lent (hf := e1) (hd := rfl) (hr := rfl), ?_⟩; simp (maxSteps := 4000000) only [go_sem, n1]) | (refine ⟨_, .given (hf := h14) (hd := rfl) (ha := rfl), ?_⟩; simp (maxSteps := 4000000) only [go_sem, n1]) | (refine ⟨_, .given (hf := h31) (hd := rfl) (ha := rfl), ?_⟩; simp (maxSteps := 4000000) only [go_sem, n1]) | (refine ⟨_, .given (hf := h36) (hd := rfl) (ha := rfl), ?_⟩; simp (maxSteps := 4000000) only [go_sem, n1]) | (refine ⟨_, .given (hf := e1) (hd := rfl) (ha := rfl), ?_⟩; simp (maxSteps := 4000000) only [go_sem, n1]))); refine hK _ ?_; clear hK K) | refine walkL_nil ?_ | refine walkL_ret ?_ | refine walkL_exit ?_ | refine blockA_here ?_ | refine blockA_other rfl ?_ | refine blockA_ret ?_ | refine blockA_normal ?_ | refine thenA_ret ?_ | refine thenA_exit ?_ | refine thenA_normal ?_)
      refine walkL_false rfl ?_
      repeat (first | refine walkL_seq ?_ | refine walkL_skip ?_ | refine walkL_block ?_ | (refine walkL_region fun K hK => ?_; simp (maxSteps := 4000000) only [go_sem, n2]; (repeat (first | (refine ⟨_, .lent (hf := h37) (hd := rfl) (hr := rfl), ?_⟩; simp (maxSteps := 4000000) only [go_sem, n2]) | (refine ⟨_, .lent (hf := h38) (hd := rfl) (hr := rfl), ?_⟩; simp (maxSteps := 4000000) only [go_sem, n2]) | (refine ⟨_, .lent (hf := e2) (hd := rfl) (hr := rfl), ?_⟩; simp (maxSteps := 4000000) only [go_sem, n2]) | (refine ⟨_, .lent (hf := e3) (hd := rfl) (hr := rfl), ?_⟩; simp (maxSteps := 4000000) only [go_sem, n2]) | (refine ⟨_, .given (hf := h37) (hd := rfl) (ha := rfl), ?_⟩; simp (maxSteps := 4000000) only [go_sem, n2]) | (refine ⟨_, .given (hf := h38) (hd := rfl) (ha := rfl), ?_⟩; simp (maxSteps := 4000000) only [go_sem, n2]) | (refine ⟨_, .given (hf := e2) (hd := rfl) (ha := rfl), ?_⟩; simp (maxSteps := 4000000) only [go_sem, n2]) | (refine ⟨_, .given (hf := e3) (hd := rfl) (ha := rfl), ?_⟩; simp (maxSteps := 4000000) only [go_sem, n2]))); refine hK _ ?_; clear hK K) | refine walkL_nil ?_ | refine walkL_ret ?_ | refine walkL_exit ?_ | refine blockA_here ?_ | refine blockA_other rfl ?_ | refine blockA_ret ?_ | refine blockA_normal ?_ | refine thenA_ret ?_ | refine thenA_exit ?_ | refine thenA_normal ?_)
      refine walkL_false rfl ?_
      repeat (first | refine walkL_seq ?_ | refine walkL_skip ?_ | refine walkL_block ?_ | (refine walkL_region fun K hK => ?_; simp (maxSteps := 4000000) only [go_sem]; refine hK _ ?_; clear hK K) | refine walkL_nil ?_ | refine walkL_ret ?_ | refine walkL_exit ?_ | refine blockA_here ?_ | refine blockA_other rfl ?_ | refine blockA_ret ?_ | refine blockA_normal ?_ | refine thenA_ret ?_ | refine thenA_exit ?_ | refine thenA_normal ?_)
      refine walkL_drawnA (by kernel_rfl) (by kernel_rfl) fun K hK => ?_
      simp (maxSteps := 4000000) only [go_sem, hrl, hrh, hal]
      refine ⟨_, .fn (hf := h34) (hd := rfl) (hr := .inl rfl), ?_⟩
      simp (maxSteps := 4000000) only [go_sem]
      refine ⟨by kernel_rfl, by kernel_rfl, hK _ ?_⟩
      clear hK K
      repeat (first | refine walkL_seq ?_ | refine walkL_skip ?_ | refine walkL_block ?_ | (refine walkL_region fun K hK => ?_; simp (maxSteps := 4000000) only [go_sem, n3, n4]; (repeat (first | (refine ⟨_, .lent (hf := h39) (hd := rfl) (hr := rfl), ?_⟩; simp (maxSteps := 4000000) only [go_sem, n3, n4]) | (refine ⟨_, .lent (hf := f13) (hd := rfl) (hr := rfl), ?_⟩; simp (maxSteps := 4000000) only [go_sem, n3, n4]) | (refine ⟨_, .given (hf := h39) (hd := rfl) (ha := rfl), ?_⟩; simp (maxSteps := 4000000) only [go_sem, n3, n4]) | (refine ⟨_, .given (hf := f13) (hd := rfl) (ha := rfl), ?_⟩; simp (maxSteps := 4000000) only [go_sem, n3, n4]))); refine hK _ ?_; clear hK K) | refine walkL_nil ?_ | refine walkL_ret ?_ | refine walkL_exit ?_ | refine blockA_here ?_ | refine blockA_other rfl ?_ | refine blockA_ret ?_ | refine blockA_normal ?_ | refine thenA_ret ?_ | refine thenA_exit ?_ | refine thenA_normal ?_)
      simp (maxSteps := 4000000) only [go_sem]
end Go.Ab
namespace Go.Ab
open Go.RowKit Go.Proofs
set_option maxHeartbeats 4000000
set_option maxRecDepth 20000
attribute [local irreducible] WalkL Walk

theorem arriveL_len (n : Net) (p : Party) (frm start : Int) : (arriveL n p frm start).1.length < 2 ^ 30 ∧ (arriveL n p frm start).2.1.length < 2 ^ 30 := by
  unfold arriveL
  split
  · rename_i h
    have hpl := (open_iff.1 h).net.places
    simp only [List.length_map, arrivals_len]
    constructor <;> omega
  · simp

theorem f8 (n : Net) (p : Party) (x : Trip) (hs : n.Small) : Fn Try.prog 8 [.agg n.cells, .agg p.cells, .agg x.row] (.bool true) := by
  have h12 := f12 n hs
  have h14 := f14 n hs
  rw [Net.cells] at h14
  have h26 := f26 n hs
  have h27 := f27 n hs
  have h28 := f28 n p x.path hs
  have h29 := f29 n p x.path hs
  have h21 := f21 n p x.frm x.start hs
  have h30 := f30 n p x.frm x.start hs
  change Fn _ _ _ (.tup [.sl (intRows (refArriveL n p x.frm x.start).1), .sl (intRows (refArriveL n p x.frm x.start).2.1), .i (refArriveL n p x.frm x.start).2.2]) at h30
  rw [arriveL_eq] at h30
  have hwl := arriveL_len n p x.frm x.start
  obtain ⟨v, hv⟩ : ∃ v, v = walkF n p x.path := ⟨_, rfl⟩
  obtain ⟨w, hw⟩ : ∃ w, w = arriveL n p x.frm x.start := ⟨_, rfl⟩
  obtain ⟨c, hc⟩ : ∃ c, c = checkF n := ⟨_, rfl⟩
  rw [← hv, Span.row] at h28 h29
  rw [← hw] at h30 hwl
  change Fn _ _ _ (.tup [.sl (intRows (arriveL n p x.frm x.start).1), .sl (intRows (arriveL n p x.frm x.start).2.1), .i (arriveL n p x.frm x.start).2.2]) at h21
  rw [← hw] at h21
  rw [← hc] at h26 h27
  have e2 := f17same w.1 hwl.1
  have e3 := f17same w.2.1 hwl.2
  have n0 : (c != c) = false := by simp
  have n1 : (v.2 != v.2) = false := by simp
  have n2 : (w.2.2 == w.2.2) = true := by simp
  have n3 : (v.1.lo == v.1.lo) = true := by simp
  have n4 : (v.1.hi == v.1.hi) = true := by simp
  refine fn_walk 88 Try.call8 Try.func8 rfl (by decide) fun J => ?_
  simp (maxSteps := 4000000) only [go_sem, St.start, Try.ntmps8, Try.results8, Net.cells, Party.cells, Trip.row]
  by_cases hfar : farB n = true
  · repeat (first | refine walkL_seq ?_ | refine walkL_skip ?_ | refine walkL_block ?_ | (refine walkL_region fun K hK => ?_; simp (maxSteps := 4000000) only [go_sem, hfar]; (repeat (first | (refine ⟨_, .lent (hf := h12) (hd := rfl) (hr := rfl), ?_⟩; simp (maxSteps := 4000000) only [go_sem, hfar]) | (refine ⟨_, .given (hf := h12) (hd := rfl) (ha := rfl), ?_⟩; simp (maxSteps := 4000000) only [go_sem, hfar]))); refine hK _ ?_; clear hK K) | refine walkL_nil ?_ | refine walkL_ret ?_ | refine walkL_exit ?_ | refine blockA_here ?_ | refine blockA_other rfl ?_ | refine blockA_ret ?_ | refine blockA_normal ?_ | refine thenA_ret ?_ | refine thenA_exit ?_ | refine thenA_normal ?_)
    refine walkL_true rfl ?_
    repeat (first | refine walkL_seq ?_ | refine walkL_skip ?_ | refine walkL_block ?_ | (refine walkL_region fun K hK => ?_; simp (maxSteps := 4000000) only [go_sem]; (repeat (first | (refine ⟨_, .lent (hf := f13) (hd := rfl) (hr := rfl), ?_⟩; simp (maxSteps := 4000000) only [go_sem]) | (refine ⟨_, .given (hf := f13) (hd := rfl) (ha := rfl), ?_⟩; simp (maxSteps := 4000000) only [go_sem]))); refine hK _ ?_; clear hK K) | refine walkL_nil ?_ | refine walkL_ret ?_ | refine walkL_exit ?_ | refine blockA_here ?_ | refine blockA_other rfl ?_ | refine blockA_ret ?_ | refine blockA_normal ?_ | refine thenA_ret ?_ | refine thenA_exit ?_ | refine thenA_normal ?_)
    simp (maxSteps := 4000000) only [go_sem]
  · have hfar' : farB n = false := by simpa using hfar
    repeat (first | refine walkL_seq ?_ | refine walkL_skip ?_ | refine walkL_block ?_ | (refine walkL_region fun K hK => ?_; simp (maxSteps := 4000000) only [go_sem, hfar']; (repeat (first | (refine ⟨_, .lent (hf := h12) (hd := rfl) (hr := rfl), ?_⟩; simp (maxSteps := 4000000) only [go_sem, hfar']) | (refine ⟨_, .given (hf := h12) (hd := rfl) (ha := rfl), ?_⟩; simp (maxSteps := 4000000) only [go_sem, hfar']))); refine hK _ ?_; clear hK K) | refine walkL_nil ?_ | refine walkL_ret ?_ | refine walkL_exit ?_ | refine blockA_here ?_ | refine blockA_other rfl ?_ | refine blockA_ret ?_ | refine blockA_normal ?_ | refine thenA_ret ?_ | refine thenA_exit ?_ | refine thenA_normal ?_)
    refine walkL_false rfl ?_
    repeat (first | refine walkL_seq ?_ | refine walkL_skip ?_ | refine walkL_block ?_ | (refine walkL_region fun K hK => ?_; simp (maxSteps := 4000000) only [go_sem]; (repeat (first | (refine ⟨_, .lent (hf := h14) (hd := rfl) (hr := rfl), ?_⟩; simp (maxSteps := 4000000) only [go_sem]) | (refine ⟨_, .given (hf := h14) (hd := rfl) (ha := rfl), ?_⟩; simp (maxSteps := 4000000) only [go_sem]))); refine hK _ ?_; clear hK K) | refine walkL_nil ?_ | refine walkL_ret ?_ | refine walkL_exit ?_ | refine blockA_here ?_ | refine blockA_other rfl ?_ | refine blockA_ret ?_ | refine blockA_normal ?_ | refine thenA_ret ?_ | refine thenA_exit ?_ | refine thenA_normal ?_)
    refine walkL_drawn (by kernel_rfl) (by kernel_rfl) fun K hK => ?_
    simp (maxSteps := 4000000) only [go_sem]
    refine ⟨_, .fn (hf := h26) (hd := rfl) (hr := .inl rfl), ?_⟩
    simp (maxSteps := 4000000) only [go_sem]
    refine ⟨_, .fn (hf := h27) (hd := rfl) (hr := .inl rfl), ?_⟩
    simp (maxSteps := 4000000) only [go_sem, n0]
    refine ⟨by kernel_rfl, hK _ ?_⟩
    clear hK K
    repeat (first | refine walkL_seq ?_ | refine walkL_skip ?_ | refine walkL_block ?_ | (refine walkL_region fun K hK => ?_; simp (maxSteps := 4000000) only [go_sem]; refine hK _ ?_; clear hK K) | refine walkL_nil ?_ | refine walkL_ret ?_ | refine walkL_exit ?_ | refine blockA_here ?_ | refine blockA_other rfl ?_ | refine blockA_ret ?_ | refine blockA_normal ?_ | refine thenA_ret ?_ | refine thenA_exit ?_ | refine thenA_normal ?_)
    refine walkL_false rfl ?_
    repeat (first | refine walkL_seq ?_ | refine walkL_skip ?_ | refine walkL_block ?_ | (refine walkL_region fun K hK => ?_; simp (maxSteps := 4000000) only [go_sem, n1, n3, n4]; (repeat (first | (refine ⟨_, .lent (hf := h28) (hd := rfl) (hr := rfl), ?_⟩; simp (maxSteps := 4000000) only [go_sem, n1, n3, n4]) | (refine ⟨_, .lent (hf := h29) (hd := rfl) (hr := rfl), ?_⟩; simp (maxSteps := 4000000) only [go_sem, n1, n3, n4]) | (refine ⟨_, .given (hf := h28) (hd := rfl) (ha := rfl), ?_⟩; simp (maxSteps := 4000000) only [go_sem, n1, n3, n4]) | (refine ⟨_, .given (hf := h29) (hd := rfl) (ha := rfl), ?_⟩; simp (maxSteps := 4000000) only [go_sem, n1, n3, n4]))); refine hK _ ?_; clear hK K) | refine walkL_nil ?_ | refine walkL_ret ?_ | refine walkL_exit ?_ | refine blockA_here ?_ | refine blockA_other rfl ?_ | refine blockA_ret ?_ | refine blockA_normal ?_ | refine thenA_ret ?_ | refine thenA_exit ?_ | refine thenA_normal ?_)
    refine walkL_false rfl ?_
    repeat (first | refine walkL_seq ?_ | refine walkL_skip ?_ | refine walkL_block ?_ | (refine walkL_region fun K hK => ?_; simp (maxSteps := 4000000) only [go_sem, n2]; (repeat (first | (refine ⟨_, .lent (hf := h21) (hd := rfl) (hr := rfl), ?_⟩; simp (maxSteps := 4000000) only [go_sem, n2]) | (refine ⟨_, .lent (hf := h30) (hd := rfl) (hr := rfl), ?_⟩; simp (maxSteps := 4000000) only [go_sem, n2]) | (refine ⟨_, .lent (hf := e2) (hd := rfl) (hr := rfl), ?_⟩; simp (maxSteps := 4000000) only [go_sem, n2]) | (refine ⟨_, .lent (hf := e3) (hd := rfl) (hr := rfl), ?_⟩; simp (maxSteps := 4000000) only [go_sem, n2]) | (refine ⟨_, .lent (hf := f13) (hd := rfl) (hr := rfl), ?_⟩; simp (maxSteps := 4000000) only [go_sem, n2]) | (refine ⟨_, .given (hf := h21) (hd := rfl) (ha := rfl), ?_⟩; simp (maxSteps := 4000000) only [go_sem, n2]) | (refine ⟨_, .given (hf := h30) (hd := rfl) (ha := rfl), ?_⟩; simp (maxSteps := 4000000) only [go_sem, n2]) | (refine ⟨_, .given (hf := e2) (hd := rfl) (ha := rfl), ?_⟩; simp (maxSteps := 4000000) only [go_sem, n2]) | (refine ⟨_, .given (hf := e3) (hd := rfl) (ha := rfl), ?_⟩; simp (maxSteps := 4000000) only [go_sem, n2]) | (refine ⟨_, .given (hf := f13) (hd := rfl) (ha := rfl), ?_⟩; simp (maxSteps := 4000000) only [go_sem, n2]))); refine hK _ ?_; clear hK K) | refine walkL_nil ?_ | refine walkL_ret ?_ | refine walkL_exit ?_ | refine blockA_here ?_ | refine blockA_other rfl ?_ | refine blockA_ret ?_ | refine blockA_normal ?_ | refine thenA_ret ?_ | refine thenA_exit ?_ | refine thenA_normal ?_)
    simp (maxSteps := 4000000) only [go_sem]
end Go.Ab
/- Plain laws of layer 1: the route that is returned. -/
namespace Go.Ab
open Go.RowKit Go.Proofs
set_option maxHeartbeats 1000000

/-! ### Routes, path by path -/

/-- From a place, at a minute, over these paths, to a place, by then. -/
inductive Trail (n : Net) (p : Party) : Int → Int → List Int → Int → Int → Prop where
  | nil (y t : Int) : Trail n p y t [] y t
  | cons {y t z u : Int} {r : List Int} (w : Nat × Path) (hm : w ∈ waysL n p (-1)) (hf : w.2.frm = y) (hle : arriveF w.2.opens t (spanW w.2 p).hi ≤ 2880)
      (h : Trail n p w.2.to (arriveF w.2.opens t (spanW w.2 p).hi) r z u) : Trail n p y t ((w.1 : Int) :: r) z u

/-- With so many paths. -/
inductive ReachN (n : Net) (p : Party) (x s : Int) : Nat → Int → Int → Prop where
  | refl : ReachN n p x s 0 x s
  | step {k : Nat} {y t : Int} (w : Nat × Path) : ReachN n p x s k y t → w ∈ waysL n p (-1) → w.2.frm = y → arriveF w.2.opens t (spanW w.2 p).hi ≤ 2880 → ReachN n p x s (k + 1) w.2.to (arriveF w.2.opens t (spanW w.2 p).hi)

theorem ReachN.reach {n : Net} {p : Party} {x s : Int} {k : Nat} {y t : Int} (h : ReachN n p x s k y t) : Reach (waysL n p (-1)) (durHi p) x s y t := by
  induction h with
  | refl => exact .refl
  | step w _ hm hf hle ih => exact .step w ih hm hf hle

theorem Trail.reach {n : Net} {p : Party} {y t z u : Int} {r : List Int} (h : Trail n p y t r z u) : Reach (waysL n p (-1)) (durHi p) y t z u := by
  induction h with
  | nil => exact .refl
  | cons w hm hf hle _ ih =>
    subst hf
    exact Reach.trans (Reach.one (dur := durHi p) hm hle) ih

/-! ### With exactly so many paths -/

section
variable {n : Net} {p : Party} {frm start : Int}

def NowInv (n : Net) (p : Party) (frm start : Int) (k : Nat) (l : List Int) : Prop :=
  l.length = n.places.toNat ∧ ∀ y, 0 ≤ y → y < n.places → getI l y = never ∨ (0 ≤ getI l y ∧ getI l y ≤ 2880 ∧ ReachN n p frm start k y (getI l y))

theorem foldS_step (hn : n.Good) (hp : p.Good) {k : Nat} {now : List Int} (hN : NowInv n p frm start k now) : ∀ (ws : List (Nat × Path)) (l : List Int), (∀ w ∈ ws, w ∈ waysL n p (-1)) → NowInv n p frm start (k + 1) l →
    NowInv n p frm start (k + 1) (ws.foldl (relaxS p now) l) ∧ (∀ y, 0 ≤ y → y < n.places → getI (ws.foldl (relaxS p now) l) y ≤ getI l y) ∧
    ∀ w ∈ ws, getI now w.2.frm ≠ never → getI (ws.foldl (relaxS p now) l) w.2.to ≤ arriveF w.2.opens (getI now w.2.frm) (spanW w.2 p).hi := by
  intro ws
  induction ws with
  | nil => exact fun l _ h => ⟨h, fun y _ _ => Int.le_refl _, fun w hw => by cases hw⟩
  | cons v ws ih =>
    intro l hs h
    rw [List.foldl_cons]
    have hv : never = 1073741824 := rfl
    have hok := (ways_ok hn hp (-1)).1
    obtain ⟨v1, v2, v3⟩ := hok v (hs v (by simp))
    have v3 : okTime (spanW v.2 p).hi := v3
    have hsz : v.2.to.toNat < l.length := by have := h.1; omega
    have one : NowInv n p frm start (k + 1) (relaxS p now l v) ∧ (∀ y, 0 ≤ y → y < n.places → getI (relaxS p now l v) y ≤ getI l y) ∧ (getI now v.2.frm ≠ never → getI (relaxS p now l v) v.2.to ≤ arriveF v.2.opens (getI now v.2.frm) (spanW v.2 p).hi) := by
      unfold relaxS
      split
      · rename_i e; exact ⟨h, fun y _ _ => Int.le_refl _, fun hc => absurd e hc⟩
      · rename_i hne
        rcases hN.2 v.2.frm v1.1 v1.2 with h4 | ⟨h4, h5, h6⟩
        · exact absurd h4 hne
        refine ⟨⟨by simpa using h.1, fun y hy hyn => ?_⟩, fun y hy hyn => ?_, fun _ => ?_⟩
        · rw [getI_set _ _ _ _ v2.1 hsz hy]
          split
          · rename_i e; subst e
            by_cases hlt : getI l v.2.to ≤ arriveF v.2.opens (getI now v.2.frm) (spanW v.2 p).hi
            · rw [Int.min_eq_left hlt]; exact h.2 _ v2.1 v2.2
            · rw [Int.min_eq_right (by omega)]
              rcases arrive_range (opens := v.2.opens) h4 v3 with ha | ⟨ha, ha'⟩
              · exact .inl ha
              · unfold okTime at v3
                exact .inr ⟨by omega, ha', .step v h6 (hs v (by simp)) rfl ha'⟩
          · exact h.2 y hy hyn
        · rw [getI_set _ _ _ _ v2.1 hsz hy]
          split
          · rename_i e; subst e; omega
          · exact Int.le_refl _
        · rw [getI_set _ _ _ _ v2.1 hsz v2.1, if_pos rfl]; omega
    obtain ⟨o1, o2, o3⟩ := one
    obtain ⟨i1, i2, i3⟩ := ih _ (fun w hw => hs w (by simp [hw])) o1
    refine ⟨i1, fun y hy hyn => Int.le_trans (i2 y hy hyn) (o2 y hy hyn), fun w hw hne => ?_⟩
    rcases List.mem_cons.1 hw with rfl | hw
    · exact Int.le_trans (i2 _ v2.1 v2.2) (o3 hne)
    · exact i3 w hw hne

theorem never_get {m : Nat} {y : Int} (hy : 0 ≤ y) (hm : y < m) : getI (List.replicate m never) y = never := by
  unfold getI; rw [List.getD_eq_getElem?_getD, List.getElem?_replicate, if_pos (by omega)]; rfl
theorem before_get {m : Nat} {y : Int} (hy : 0 ≤ y) (hm : y < m) : getI (List.replicate m (-1 : Int)) y = -1 := by
  unfold getI; rw [List.getD_eq_getElem?_getD, List.getElem?_replicate, if_pos (by omega)]; rfl

theorem nowS_inv (hn : n.Good) (hp : p.Good) (hf : 0 ≤ frm ∧ frm < n.places) (hs : 0 ≤ start ∧ start ≤ 2880) : ∀ k, NowInv n p frm start k (nowS n p frm start k)
  | 0 => by
    have hl : frm.toNat < (List.replicate n.places.toNat never).length := by simp; omega
    show NowInv n p frm start 0 (arrivals0 n frm start)
    refine ⟨by simp [arrivals0], fun y hy hyn => ?_⟩
    unfold arrivals0
    rw [getI_set _ _ _ _ hf.1 hl hy]
    split
    · rename_i e; subst e; exact .inr ⟨hs.1, hs.2, .refl⟩
    · left; exact never_get hy (by omega)
  | k + 1 => (foldS_step hn hp (nowS_inv hn hp hf hs k) (waysL n p (-1)) _ (fun _ h => h) ⟨by simp, fun y hy hyn => .inl (never_get hy (by omega))⟩).1

theorem nowS_step (hn : n.Good) (hp : p.Good) (hf : 0 ≤ frm ∧ frm < n.places) (hs : 0 ≤ start ∧ start ≤ 2880) (k : Nat) {w : Nat × Path} (hw : w ∈ waysL n p (-1)) (hne : getI (nowS n p frm start k) w.2.frm ≠ never) :
    getI (nowS n p frm start (k + 1)) w.2.to ≤ arriveF w.2.opens (getI (nowS n p frm start k) w.2.frm) (spanW w.2 p).hi :=
  (foldS_step hn hp (nowS_inv hn hp hf hs k) (waysL n p (-1)) _ (fun _ h => h) ⟨by simp, fun y hy hyn => .inl (never_get hy (by omega))⟩).2.2 w hw hne

/-- What is reached with so many paths is not missed. -/
theorem nowS_least (hn : n.Good) (hp : p.Good) (hf : 0 ≤ frm ∧ frm < n.places) (hs : 0 ≤ start ∧ start ≤ 2880) {k : Nat} {y t : Int} (h : ReachN n p frm start k y t) : getI (nowS n p frm start k) y ≤ t := by
  have hv : never = 1073741824 := rfl
  have hok := (ways_ok hn hp (-1)).1
  induction h with
  | refl =>
    have hl : frm.toNat < (List.replicate n.places.toNat never).length := by simp; omega
    show getI (arrivals0 n frm start) frm ≤ start
    unfold arrivals0; rw [getI_set _ _ _ _ hf.1 hl hf.1, if_pos rfl]; exact Int.le_refl _
  | @step k y t w hr hm hfe hle ih =>
    have hrg := hr.reach.range hok hs hf
    obtain ⟨_, _, w3⟩ := hok w hm
    have w3 : okTime (spanW w.2 p).hi := w3
    have hne : getI (nowS n p frm start k) w.2.frm ≠ never := by rw [hfe]; omega
    have h1 := nowS_step hn hp hf hs k hm hne
    rw [hfe] at h1
    have h0 : 0 ≤ getI (nowS n p frm start k) y := by
      rcases (nowS_inv hn hp hf hs k).2 y (by omega) (by omega) with h | h <;> omega
    exact Int.le_trans h1 (arrive_mono h0 ih w3)

/-- The lowest arrival is reached with few paths. -/
theorem few_paths (hn : n.Good) (hp : p.Good) (hf : 0 ≤ frm ∧ frm < n.places) (hs : 0 ≤ start ∧ start ≤ 2880) : ∀ (r : Nat) (y : Int), 0 ≤ y → y < n.places → getI (arrivalsL n p spanHi frm start (-1)) y ≠ never →
    lower n.places.toNat (fun z => getI (arrivalsL n p spanHi frm start (-1)) z) y ≤ r → ∃ k, k ≤ r ∧ ReachN n p frm start k y (getI (arrivalsL n p spanHi frm start (-1)) y) := by
  have hv : never = 1073741824 := rfl
  have hok := (ways_ok hn hp (-1)).1
  obtain ⟨A1, A2⟩ := arr_spec (q := spanHi) (but := -1) hok hf hs
  obtain ⟨D, hD⟩ : ∃ D : Int → Int, D = fun z => getI (arrivalsL n p spanHi frm start (-1)) z := ⟨_, rfl⟩
  have A1' : ∀ y, 0 ≤ y → y < n.places → D y = never ∨ (0 ≤ D y ∧ D y ≤ 2880 ∧ Reach (waysL n p (-1)) (durHi p) frm start y (D y)) := by rw [hD]; exact A1
  have A2' : ∀ y t, Reach (waysL n p (-1)) (durHi p) frm start y t → D y ≤ t := by rw [hD]; exact A2
  clear A1 A2
  intro r
  have key : ∀ r (y : Int), 0 ≤ y → y < n.places → D y ≠ never → lower n.places.toNat D y ≤ r → ∃ k, k ≤ r ∧ ReachN n p frm start k y (D y) := by
    intro r
    induction r with
    | zero =>
      intro y hy hyn hne hlow
      rcases A1' y hy hyn with h | ⟨h1, h2, h3⟩
      · exact absurd h hne
      obtain ⟨dy, hdy⟩ : ∃ dy, dy = D y := ⟨_, rfl⟩
      rw [← hdy] at h3 h2 h1 ⊢
      cases h3 with
      | refl => exact ⟨0, Nat.le_refl _, .refl⟩
      | @step z t w hr hm hfe hle =>
        exfalso
        have hrg := hr.range hok hs hf
        obtain ⟨_, _, w3⟩ := hok w hm
        have w3 : okTime (durHi p w.2) := w3
        have hlt : D z < D w.2.to := by
          have h4 := A2' z t hr
          rcases arrive_range (opens := w.2.opens) (t := t) (by omega) w3 with h | h
          · omega
          · unfold okTime at w3; omega
        have := lower_lt (m := n.places.toNat) hlt (by omega)
        omega
    | succ r ih =>
      intro y hy hyn hne hlow
      rcases A1' y hy hyn with h | ⟨h1, h2, h3⟩
      · exact absurd h hne
      obtain ⟨dy, hdy⟩ : ∃ dy, dy = D y := ⟨_, rfl⟩
      rw [← hdy] at h3 h2 h1 ⊢
      cases h3 with
      | refl => exact ⟨0, Nat.zero_le _, .refl⟩
      | @step z t w hr hm hfe hle =>
        have hrg := hr.range hok hs hf
        obtain ⟨_, _, w3⟩ := hok w hm
        have w3 : okTime (durHi p w.2) := w3
        have h4 := A2' z t hr
        have hlt : D z < D w.2.to := by
          rcases arrive_range (opens := w.2.opens) (t := t) (by omega) w3 with h | h
          · omega
          · unfold okTime at w3; omega
        have hlz := lower_lt (m := n.places.toNat) hlt (by omega)
        have hDz : D z ≠ never := by omega
        obtain ⟨k, hk, hrk⟩ := ih z (by omega) (by omega) hDz (by omega)
        have hz0 : 0 ≤ D z := by rcases A1' z (by omega) (by omega) with h | h <;> omega
        have hle' := arrive_mono (opens := w.2.opens) hz0 h4 w3
        have hge := A2' w.2.to _ (Reach.step w hrk.reach hm hfe (by omega))
        have he : arriveF w.2.opens t (durHi p w.2) = arriveF w.2.opens (D z) (spanW w.2 p).hi := by
          have e1 : arriveF w.2.opens (D z) (spanW w.2 p).hi = arriveF w.2.opens (D z) (durHi p w.2) := rfl
          rw [e1]
          rw [← hdy] at hge
          change arriveF w.2.opens t (durHi p w.2) ≤ _ at hge
          omega
        refine ⟨k + 1, by omega, ?_⟩
        rw [he]
        exact .step w hrk hm hfe (by rw [← he]; exact hle)
  rw [hD] at key
  exact key r

theorem idxFrom_spec {α : Type} {q : α → Bool} : ∀ (l : List α) (i k : Nat) (x : α), l[k]? = some x → q x = true → ∃ j, j ≤ k ∧ idxFrom q l i = ((i + j : Nat) : Int) ∧ (∃ y, l[j]? = some y ∧ q y = true) ∧ ∀ m y, m < j → l[m]? = some y → q y = false
  | [], i, k, x, h, _ => by simp at h
  | a :: l, i, k, x, h, hq => by
    unfold idxFrom
    by_cases ha : q a = true
    · rw [if_pos ha]
      exact ⟨0, Nat.zero_le _, rfl, ⟨a, rfl, ha⟩, fun m y hm => by omega⟩
    · rw [if_neg ha]
      cases k with
      | zero => simp at h; subst h; exact absurd hq ha
      | succ k =>
        obtain ⟨j, h1, h2, h3, h4⟩ := idxFrom_spec l (i + 1) k x (by simpa using h) hq
        refine ⟨j + 1, by omega, by rw [h2]; congr 1; omega, by simpa using h3, fun m y hm hy => ?_⟩
        cases m with
        | zero => simp at hy; subst hy; simpa using ha
        | succ m => exact h4 m y (by omega) (by simpa using hy)

/-- With how few paths the lowest arrival is reached. -/
theorem fewest_spec (hn : n.Good) (hp : p.Good) (hf : 0 ≤ frm ∧ frm < n.places) (hs : 0 ≤ start ∧ start ≤ 2880) {to : Int} (ht : 0 ≤ to ∧ to < n.places) (hne : getI (arrivalsL n p spanHi frm start (-1)) to ≠ never) :
    ∃ K : Nat, fewest n p frm start to (getI (arrivalsL n p spanHi frm start (-1)) to) = K ∧ K < n.places.toNat ∧ ReachN n p frm start K to (getI (arrivalsL n p spanHi frm start (-1)) to) ∧
      ∀ j t, j < K → ReachN n p frm start j to t → getI (arrivalsL n p spanHi frm start (-1)) to < t := by
  have hok := (ways_ok hn hp (-1)).1
  obtain ⟨arr, harr⟩ : ∃ arr, arr = getI (arrivalsL n p spanHi frm start (-1)) to := ⟨_, rfl⟩
  obtain ⟨A1, A2⟩ := arr_spec (q := spanHi) (but := -1) hok hf hs
  have hA2 := A2 to
  have hA1 := A1 to ht.1 ht.2
  obtain ⟨k, hk, hr⟩ := few_paths hn hp hf hs (n.places.toNat - 1) to ht.1 ht.2 hne (by have := lower_le (m := n.places.toNat) (d := fun z => getI (arrivalsL n p spanHi frm start (-1)) z) (y := to) (by omega); omega)
  rw [← harr] at hr hne hA2 hA1 ⊢
  have hpl := hn.places
  have hge : ∀ k, arr ≤ getI (nowS n p frm start k) to := by
    intro k
    rcases (nowS_inv hn hp hf hs k).2 to ht.1 ht.2 with h | ⟨_, _, h⟩
    · have hv : never = 1073741824 := rfl
      rcases hA1 with h' | h' <;> omega
    · exact hA2 _ h.reach
  have hget : ∀ j, j < n.places.toNat → (stepsL n p frm start (n.places.toNat - 1))[j]? = some (nowS n p frm start j) := by
    intro j hj
    simp [stepsL, show j < n.places.toNat - 1 + 1 by omega]
  have hkq : (getI (nowS n p frm start k) to == arr) = true := by
    have h1 := nowS_least hn hp hf hs hr
    have h2 := hge k
    simp; omega
  obtain ⟨K, h1, h2, ⟨l, h3, h4⟩, h5⟩ := idxFrom_spec (q := fun l => getI l to == arr) (stepsL n p frm start (n.places.toNat - 1)) 0 k _ (hget k (by omega)) hkq
  have hKl : K < n.places.toNat := by omega
  rw [hget K hKl] at h3
  cases h3
  have hKe : getI (nowS n p frm start K) to = arr := by simpa using h4
  refine ⟨K, by unfold fewest; rw [h2]; simp, hKl, ?_, fun j t hj hrj => ?_⟩
  · rcases (nowS_inv hn hp hf hs K).2 to ht.1 ht.2 with h | ⟨_, _, h⟩
    · rw [hKe] at h; exact absurd h hne
    · rwa [hKe] at h
  · have h6 := h5 j _ hj (hget j (by omega))
    have h7 := nowS_least hn hp hf hs hrj
    have h8 := hge j
    have h9 : getI (nowS n p frm start j) to ≠ arr := by simpa using h6
    omega
end
end Go.Ab
/- Plain laws of layer 1: the route that is returned, path by path. -/
namespace Go.Ab
open Go.RowKit Go.Proofs
set_option maxHeartbeats 1000000

/-- Not behind, path by path. -/
def lexLe : List Int → List Int → Prop
  | [], _ => True
  | _ :: _, [] => False
  | a :: l, b :: m => a < b ∨ (a = b ∧ lexLe l m)

section
variable {n : Net} {p : Party} {to arr : Int}

theorem foldBy_spec (hn : n.Good) (hp : p.Good) {cur : List Int} (t y : Int) (hy : 0 ≤ y) : ∀ (ws : List (Nat × Path)) (l : List Int), (∀ w ∈ ws, w ∈ waysL n p (-1)) → l.length = n.places.toNat →
    (t ≤ getI (ws.foldl (relaxBy p cur) l) y ↔ t ≤ getI l y ∨ ∃ w ∈ ws, w.2.frm = y ∧ t ≤ latestF w.2.opens (wr (getI cur w.2.to - (spanW w.2 p).hi))) := by
  intro ws
  induction ws with
  | nil => intro l _ _; simp
  | cons v ws ih =>
    intro l hs hl
    obtain ⟨v1, _, _⟩ := (ways_ok hn hp (-1)).1 v (hs v (by simp))
    have hsz : v.2.frm.toNat < l.length := by omega
    rw [List.foldl_cons, ih _ (fun w hw => hs w (by simp [hw])) (by rw [relaxBy_len, hl])]
    unfold relaxBy
    rw [getI_set _ _ _ _ v1.1 hsz hy]
    simp only [List.mem_cons, exists_eq_or_imp]
    by_cases h : y = v.2.frm
    · subst h
      rw [if_pos rfl]
      constructor
      · rintro (h1 | h1)
        · by_cases h2 : t ≤ getI l v.2.frm
          · exact .inl h2
          · exact .inr (.inl ⟨rfl, by omega⟩)
        · exact .inr (.inr h1)
      · rintro (h1 | ⟨_, h1⟩ | h1)
        · exact .inl (by omega)
        · exact .inl (by omega)
        · exact .inr h1
    · rw [if_neg h]
      constructor
      · rintro (h1 | h1)
        · exact .inl h1
        · exact .inr (.inr h1)
      · rintro (h1 | ⟨h2, _⟩ | h1)
        · exact .inl h1
        · exact absurd h2.symm h
        · exact .inr h1

theorem byL_range (hn : n.Good) (hp : p.Good) (ht : 0 ≤ to ∧ to < n.places) (ha : 0 ≤ arr ∧ arr ≤ 2880) : ∀ (k : Nat) (y : Int), 0 ≤ y → y < n.places → -1 ≤ getI (byL n p to arr k) y ∧ getI (byL n p to arr k) y ≤ 2880
  | 0, y, hy, hyn => by
    have hl : to.toNat < (List.replicate n.places.toNat (-1 : Int)).length := by simp; omega
    show -1 ≤ getI (deadlines0 n to arr) y ∧ getI (deadlines0 n to arr) y ≤ 2880
    unfold deadlines0
    rw [getI_set _ _ _ _ ht.1 hl hy]
    split
    · omega
    · rw [before_get hy (by omega)]; omega
  | k + 1, y, hy, hyn => by
    obtain ⟨c, hc⟩ : ∃ c, c = byL n p to arr k := ⟨_, rfl⟩
    have e : byL n p to arr (k + 1) = byNext n p c := by rw [hc]; rfl
    rw [e]
    constructor
    · refine (foldBy_spec hn hp (-1) y hy (waysL n p (-1)) _ (fun _ h => h) (by simp)).2 (.inl ?_)
      rw [before_get hy (by omega)]; exact Int.le_refl _
    · by_cases h : getI (byNext n p c) y ≤ 2880
      · exact h
      · exfalso
        rcases (foldBy_spec (cur := c) hn hp 2881 y hy (waysL n p (-1)) (List.replicate n.places.toNat (-1)) (fun _ h => h) (by simp)).1 (by unfold byNext at h; omega) with h1 | ⟨w, hw, _, h1⟩
        · rw [before_get hy (by omega)] at h1; omega
        · have := latestF_le (wr (getI c w.2.to - (spanW w.2 p).hi)) w.2.opens (-1) (by omega) (hn.hi w.2 (List.mem_of_getElem? (waysL_get hw)))
          change latestF _ _ ≤ 2880 at this
          omega

/-- When the party must be at each place: one path more. -/
theorem byL_spec (hn : n.Good) (hp : p.Good) (ht : 0 ≤ to ∧ to < n.places) (ha : 0 ≤ arr ∧ arr ≤ 2880) (k : Nat) {y t : Int} (hy : 0 ≤ y) (hyn : y < n.places) (h0 : 0 ≤ t) :
    t ≤ getI (byL n p to arr (k + 1)) y ↔ ∃ w ∈ waysL n p (-1), w.2.frm = y ∧ arriveF w.2.opens t (spanW w.2 p).hi ≤ getI (byL n p to arr k) w.2.to := by
  obtain ⟨c, hc⟩ : ∃ c, c = byL n p to arr k := ⟨_, rfl⟩
  have e : byL n p to arr (k + 1) = byNext n p c := by rw [hc]; rfl
  have hr := byL_range hn hp ht ha k
  rw [e, ← hc]
  rw [← hc] at hr
  unfold byNext
  rw [foldBy_spec hn hp t y hy (waysL n p (-1)) _ (fun _ h => h) (by simp), before_get hy (by omega)]
  constructor
  · rintro (h1 | ⟨w, hw, hf, h1⟩)
    · omega
    · obtain ⟨_, w2, w3⟩ := (ways_ok hn hp (-1)).1 w hw
      have hb := hr w.2.to w2.1 w2.2
      exact ⟨w, hw, hf, (latest_iff h0 w3 hb.2 hb.1).1 h1⟩
  · rintro ⟨w, hw, hf, h1⟩
    obtain ⟨_, w2, w3⟩ := (ways_ok hn hp (-1)).1 w hw
    have hb := hr w.2.to w2.1 w2.2
    exact .inr ⟨w, hw, hf, (latest_iff h0 w3 hb.2 hb.1).2 h1⟩

theorem byL_zero (ht : 0 ≤ to ∧ to < n.places) {y t : Int} (hy : 0 ≤ y) (hyn : y < n.places) (h0 : 0 ≤ t) : t ≤ getI (byL n p to arr 0) y ↔ y = to ∧ t ≤ arr := by
  have hl : to.toNat < (List.replicate n.places.toNat (-1 : Int)).length := by simp; omega
  show t ≤ getI (deadlines0 n to arr) y ↔ _
  unfold deadlines0
  rw [getI_set _ _ _ _ ht.1 hl hy]
  split
  · rename_i h; subst h; simp
  · rename_i h
    rw [before_get hy (by omega)]
    constructor
    · intro h1; omega
    · rintro ⟨h1, _⟩; exact absurd h1 h

/-- Who comes in time over so many paths, is in time for them. -/
theorem Trail.by (hn : n.Good) (hp : p.Good) (ht : 0 ≤ to ∧ to < n.places) (ha : 0 ≤ arr ∧ arr ≤ 2880) {y t z u : Int} {r : List Int} (h : Trail n p y t r z u) : 0 ≤ y → y < n.places → 0 ≤ t → z = to → u ≤ arr → t ≤ getI (byL n p to arr r.length) y := by
  induction h with
  | nil y t =>
    intro hy hyn h0 hz hu
    exact (byL_zero ht hy hyn h0).2 ⟨hz, hu⟩
  | @cons y t z u r w hm hf hle hr ih =>
    intro hy hyn h0 hz hu
    obtain ⟨_, w2, w3⟩ := (ways_ok hn hp (-1)).1 w hm
    have w3 : okTime (spanW w.2 p).hi := w3
    have h1 : 0 ≤ arriveF w.2.opens t (spanW w.2 p).hi := by
      have hv : never = 1073741824 := rfl
      rcases arrive_range (opens := w.2.opens) h0 w3 with h | h
      · omega
      · unfold okTime at w3; omega
    exact (byL_spec hn hp ht ha r.length hy hyn h0).2 ⟨w, hm, hf, ih w2.1 w2.2 h1 hz hu⟩

theorem find_first (p : Party) (but : Int) (q : Nat × Path → Bool) : ∀ (l : List Path) (i : Nat) (w : Nat × Path), (waysFrom p but l i).find? q = some w → ∀ v ∈ waysFrom p but l i, q v = true → w.1 ≤ v.1
  | [], i, w, h, v, hv, _ => by simp [waysFrom] at hv
  | x :: l, i, w, h, v, hv, hq => by
    unfold waysFrom at h hv
    split at h
    · rename_i hc
      rw [if_pos hc] at hv
      rw [List.find?_cons] at h
      split at h
      · cases h
        rcases List.mem_cons.1 hv with rfl | hv
        · exact Nat.le_refl _
        · have := (waysFrom_mem p but l (i + 1) v hv).1
          show i ≤ v.1
          omega
      · rename_i hqx
        rcases List.mem_cons.1 hv with rfl | hv
        · rw [hq] at hqx; cases hqx
        · exact find_first p but q l (i + 1) w h v hv hq
    · rename_i hc
      rw [if_neg hc] at hv
      exact find_first p but q l (i + 1) w h v hv hq

/-- The route goes on, path by path, and is not behind any other in time. -/
theorem routeD_spec (hn : n.Good) (hp : p.Good) (ht : 0 ≤ to ∧ to < n.places) (ha : 0 ≤ arr ∧ arr ≤ 2880) : ∀ (k : Nat) (l : List Int) (y t : Int), 0 ≤ y → y < n.places → 0 ≤ t → t ≤ 2880 → t ≤ getI (byL n p to arr k) y →
    ∃ r u, routeD n p to arr k (l, y, t) = (l ++ r, to, u) ∧ r.length = k ∧ Trail n p y t r to u ∧ u ≤ arr ∧ ∀ r' u', Trail n p y t r' to u' → u' ≤ arr → r'.length = k → lexLe r r'
  | 0, l, y, t, hy, hyn, h0, h1, hb => by
    obtain ⟨hyt, hb'⟩ := (byL_zero ht hy hyn h0).1 hb
    exact ⟨[], t, by simp [routeD, hyt], rfl, hyt ▸ .nil _ _, hb', fun r' u' _ _ _ => by simp [lexLe]⟩
  | k + 1, l, y, t, hy, hyn, h0, h1, hb => by
    obtain ⟨v, hv, hvf, hva⟩ := (byL_spec hn hp ht ha k hy hyn h0).1 hb
    have hrg := byL_range hn hp ht ha k
    have hfit : ∀ w, fitsR p (byL n p to arr k) (l, y, t) w = true ↔ w.2.frm = y ∧ arriveF w.2.opens t (spanW w.2 p).hi ≤ getI (byL n p to arr k) w.2.to := by
      intro w; unfold fitsR; simp
    have hsome : ((waysL n p (-1)).find? (fitsR p (byL n p to arr k) (l, y, t))).isSome = true := by
      rw [List.find?_isSome]
      exact ⟨v, hv, (hfit v).2 ⟨hvf, hva⟩⟩
    obtain ⟨w, hw⟩ := Option.isSome_iff_exists.1 hsome
    have hwm : w ∈ waysL n p (-1) := List.mem_of_find?_eq_some hw
    obtain ⟨hwf, hwa⟩ := (hfit w).1 (by simpa using List.find?_some hw)
    obtain ⟨_, w2, w3⟩ := (ways_ok hn hp (-1)).1 w hwm
    have w3 : okTime (spanW w.2 p).hi := w3
    have hb2 := hrg w.2.to w2.1 w2.2
    have hle : arriveF w.2.opens t (spanW w.2 p).hi ≤ 2880 := by omega
    have hge : 0 ≤ arriveF w.2.opens t (spanW w.2 p).hi := by
      have hv : never = 1073741824 := rfl
      rcases arrive_range (opens := w.2.opens) h0 w3 with h | h
      · omega
      · unfold okTime at w3; omega
    obtain ⟨r, u, e1, e2, e3, e4, e5⟩ := routeD_spec hn hp ht ha k (l ++ [(w.1 : Int)]) w.2.to _ w2.1 w2.2 hge hle hwa
    refine ⟨(w.1 : Int) :: r, u, ?_, by simp [e2], .cons w hwm hwf hle e3, e4, fun r' u' ht' hu' hl' => ?_⟩
    · show routeD n p to arr k (stepR n p (byL n p to arr k) (l, y, t)) = _
      unfold stepR
      rw [hw]
      dsimp only
      rw [e1]
      simp
    · cases ht' with
      | nil => simp at hl'
      | @cons _ _ _ _ r2 w' hm' hf' hle' htr =>
        obtain ⟨_, v2, v3⟩ := (ways_ok hn hp (-1)).1 w' hm'
        have v3 : okTime (spanW w'.2 p).hi := v3
        have hge' : 0 ≤ arriveF w'.2.opens t (spanW w'.2 p).hi := by
          have hv : never = 1073741824 := rfl
          rcases arrive_range (opens := w'.2.opens) h0 v3 with h | h
          · omega
          · unfold okTime at v3; omega
        have hl2 : r2.length = k := by simpa using hl'
        have hby := htr.by hn hp ht ha v2.1 v2.2 hge' rfl hu'
        rw [hl2] at hby
        have hfst := find_first p (-1) _ n.paths 0 w hw w' hm' ((hfit w').2 ⟨hf', hby⟩)
        by_cases heq : w.1 = w'.1
        · have hpe : w = w' := by
            have g1 := waysL_get hwm
            have g2 := waysL_get hm'
            rw [heq, g2] at g1
            exact Prod.ext heq (Option.some.inj g1).symm
          subst hpe
          exact Or.inr ⟨rfl, e5 r2 u' htr hu' hl2⟩
        · exact Or.inl (by omega)

end

theorem ReachN.trail {n : Net} {p : Party} {x s : Int} {k : Nat} {y t : Int} (h : ReachN n p x s k y t) : ∀ {z u : Int} {r : List Int}, Trail n p y t r z u → ∃ r', r'.length = k + r.length ∧ Trail n p x s r' z u := by
  induction h with
  | refl => exact fun ht => ⟨_, by simp, ht⟩
  | @step k y t w _ hm hf hle ih =>
    intro z u r ht
    obtain ⟨r', h1, h2⟩ := ih (.cons w hm hf hle ht)
    exact ⟨r', by rw [h1]; simp; omega, h2⟩

theorem Trail.reachN {n : Net} {p : Party} {x s : Int} {y t z u : Int} {r : List Int} (h : Trail n p y t r z u) : ∀ {k : Nat}, ReachN n p x s k y t → ReachN n p x s (k + r.length) z u := by
  induction h with
  | nil => exact fun h => h
  | cons w hm hf hle _ ih =>
    intro k hk
    have := ih (.step w hk hm hf hle)
    rw [List.length_cons]
    rw [Nat.add_assoc, Nat.add_comm 1] at this
    exact this

/-- What Route returns. -/
theorem routeL_spec {n : Net} {p : Party} {frm start to : Int} (hn : n.Good) (hp : p.Good) (hf : 0 ≤ frm ∧ frm < n.places) (ht : 0 ≤ to ∧ to < n.places) (hs : 0 ≤ start ∧ start ≤ 2880) (hne : getI (arrivalsL n p spanHi frm start (-1)) to ≠ never) :
    ∃ r, routeL n p frm start to = (r, getI (arrivalsL n p spanHi frm start (-1)) to, 0) ∧ r.length < n.places.toNat ∧ Trail n p frm start r to (getI (arrivalsL n p spanHi frm start (-1)) to) ∧
      (∀ r', Trail n p frm start r' to (getI (arrivalsL n p spanHi frm start (-1)) to) → r.length ≤ r'.length) ∧
      ∀ r', Trail n p frm start r' to (getI (arrivalsL n p spanHi frm start (-1)) to) → r'.length = r.length → lexLe r r' := by
  obtain ⟨K, h1, h2, h3, h4⟩ := fewest_spec hn hp hf hs ht hne
  obtain ⟨a1, a2⟩ := arr_spec (q := spanHi) (but := -1) (ways_ok hn hp (-1)).1 hf hs
  have hop : openF n p [frm, to] [start] = 0 := open_iff.2 ⟨hn, hp, by simpa using ⟨hf, ht⟩, by simpa using hs⟩
  have hA := a1 to ht.1 ht.2
  have hA2 := a2 to
  obtain ⟨arr, harr⟩ : ∃ arr, arr = getI (arrivalsL n p spanHi frm start (-1)) to := ⟨_, rfl⟩
  have hrl : routeL n p frm start to = ((routeD n p to arr K ([], frm, start)).1, arr, 0) := by
    unfold routeL
    rw [if_pos hop]
    dsimp only
    rw [if_neg hne, h1, harr]
    simp
  rw [← harr] at h3 h4 hA hA2 hne ⊢
  have ha : 0 ≤ arr ∧ arr ≤ 2880 := by rcases hA with h | ⟨h, h', _⟩; exact absurd h hne; exact ⟨h, h'⟩
  obtain ⟨r0, hr0, ht0⟩ := h3.trail (.nil to arr)
  have hb := ht0.by hn hp ht ha hf.1 hf.2 hs.1 rfl (Int.le_refl _)
  rw [hr0] at hb
  obtain ⟨r, u, e1, e2, e3, e4, e5⟩ := routeD_spec hn hp ht ha K [] frm start hf.1 hf.2 hs.1 hs.2 hb
  have hu : u = arr := by
    have := hA2 u e3.reach
    omega
  subst hu
  refine ⟨r, by rw [hrl, e1]; simp, by omega, e3, fun r' hr' => ?_, fun r' hr' hl => e5 r' _ hr' (Int.le_refl _) (by omega)⟩
  by_cases hlt : r'.length < K
  · have := hr'.reachN (x := frm) (s := start) (ReachN.refl)
    rw [Nat.zero_add] at this
    have := h4 _ _ hlt this
    omega
  · omega

theorem routeL_never {n : Net} {p : Party} {frm start to : Int} (hop : openF n p [frm, to] [start] = 0) (h : getI (arrivalsL n p spanHi frm start (-1)) to = never) : routeL n p frm start to = ([], 0, 3) := by
  unfold routeL
  rw [if_pos hop]
  dsimp only
  rw [if_pos h]

/-- Route, with nothing more to be shown. -/
theorem f15' (n : Net) (p : Party) (frm start to : Int) (hs : n.Small) : Fn Try.prog 15 [.agg n.cells, .agg p.cells, .i frm, .i start, .i to]
    (.tup [.sl (intRows (routeL n p frm start to).1), .i (routeL n p frm start to).2.1, .i (routeL n p frm start to).2.2]) := by
  refine f15 n p frm start to hs fun hop hne => ?_
  have ho := open_iff.1 hop
  obtain ⟨K, h1, h2, _, _⟩ := fewest_spec ho.net ho.party (ho.place frm (by simp)) (ho.minute start (by simp)) (ho.place to (by simp)) hne
  exact ⟨K, h1, by have := ho.net.places; omega⟩
end Go.Ab
/- Plain laws of layer 1: a path that is shut; paths that must stay open. -/
namespace Go.Ab
open Go.RowKit Go.Proofs
set_option maxHeartbeats 1000000

/-- The net with a path that never opens. -/
def Path.shut (x : Path) : Path := { x with opens := [] }
def Net.shut (n : Net) (i : Nat) : Net := { n with paths := n.paths.modify i Path.shut }

theorem shut_get (n : Net) (i j : Nat) : (n.shut i).paths[j]? = (n.paths[j]?).map fun x => if j = i then x.shut else x := by
  unfold Net.shut
  rw [List.getElem?_modify]
  show Option.map _ _ = _
  congr 1
  funext a
  by_cases h : i = j
  · subst h; simp
  · have : ¬ j = i := fun e => h e.symm
    simp [this, h]

theorem shut_span (x : Path) (p : Party) : spanW x.shut p = spanW x p := rfl

theorem shut_good {n : Net} (h : n.Good) (i : Nat) : (n.shut i).Good := by
  refine ⟨h.places, by simpa [Net.shut] using h.paths, fun y hy => ?_⟩
  obtain ⟨j, hj⟩ := List.getElem?_of_mem hy
  rw [shut_get] at hj
  obtain ⟨x, hx, he⟩ := Option.map_eq_some_iff.1 hj
  have hg := h.path x (List.mem_of_getElem? hx)
  have hp : (n.shut i).places = n.places := rfl
  split at he
  · subst he
    exact ⟨hg.frm, hg.to, hg.ne, hg.grade, hg.time, hg.snow, by simp [Path.shut], by simp [Path.shut]⟩
  · subst he
    exact ⟨hg.frm, hg.to, hg.ne, hg.grade, hg.time, hg.snow, hg.len, hg.opens⟩

theorem arrive_shut {t d : Int} (ht : 0 ≤ t) (hd : okTime d) : ¬ arriveF [] t d ≤ 2880 := by
  rw [arrive_le_iff ht hd (Int.le_refl _)]
  simp

section
variable {n : Net} {p : Party} {frm start : Int}

theorem reach_shut (hn : n.Good) (hp : p.Good) (hf : 0 ≤ frm ∧ frm < n.places) (hs : 0 ≤ start ∧ start ≤ 2880) (i : Nat) {y t : Int} :
    Reach (waysL (n.shut i) p (-1)) (durHi p) frm start y t ↔ Reach (waysL n p (i : Int)) (durHi p) frm start y t := by
  have ok1 := (ways_ok (shut_good hn i) hp (-1)).1
  have ok2 := (ways_ok hn hp (i : Int)).1
  constructor
  · intro h
    induction h with
    | refl => exact .refl
    | @step y t w hr hm hfe hle ih =>
      have hrg := ih.range ok2 hs hf
      obtain ⟨g1, g2, _⟩ := waysL_iff.1 hm
      have w3 : okTime (durHi p w.2) := (ok1 w hm).2.2
      rw [shut_get] at g1
      obtain ⟨x, hx, he⟩ := Option.map_eq_some_iff.1 g1
      split at he
      · exfalso
        rw [← he] at hle
        exact arrive_shut (by omega) (by rw [← he] at w3; exact w3) hle
      · rename_i hne
        refine .step w ih (waysL_iff.2 ⟨by rw [hx, he], g2, fun e => hne (by omega)⟩) hfe hle
  · intro h
    induction h with
    | refl => exact .refl
    | @step y t w hr hm hfe hle ih =>
      obtain ⟨g1, g2, g3⟩ := waysL_iff.1 hm
      refine .step w ih (waysL_iff.2 ⟨?_, g2, by omega⟩) hfe hle
      rw [shut_get, g1]
      have : ¬ w.1 = i := fun e => g3 (by omega)
      simp [this]

/-- The lowest arrivals are told by what is reached. -/
theorem arr_unique {n' : Net} {p' : Party} {q q' : Span → Int} {but but' : Int} (ok1 : OkWs n (fun x => q (spanW x p)) (waysL n p but)) (ok2 : OkWs n' (fun x => q' (spanW x p')) (waysL n' p' but')) (hpl : n'.places = n.places)
    (hf : 0 ≤ frm ∧ frm < n.places) (hs : 0 ≤ start ∧ start ≤ 2880) {y : Int} (hy : 0 ≤ y ∧ y < n.places)
    (h : ∀ t, Reach (waysL n p but) (fun x => q (spanW x p)) frm start y t ↔ Reach (waysL n' p' but') (fun x => q' (spanW x p')) frm start y t) :
    getI (arrivalsL n p q frm start but) y = getI (arrivalsL n' p' q' frm start but') y := by
  have hv : never = 1073741824 := rfl
  obtain ⟨a1, a2⟩ := arr_spec ok1 hf hs
  obtain ⟨b1, b2⟩ := arr_spec ok2 (by rw [hpl]; exact hf) hs
  have a2 := a2 y
  have b2 := b2 y
  rcases a1 y hy.1 hy.2 with h1 | ⟨h1, h2, h3⟩
  · rcases b1 y hy.1 (by rw [hpl]; exact hy.2) with g1 | ⟨g1, g2, g3⟩
    · rw [h1, g1]
    · have := a2 _ ((h _).2 g3); omega
  · rcases b1 y hy.1 (by rw [hpl]; exact hy.2) with g1 | ⟨g1, g2, g3⟩
    · have := b2 _ ((h _).1 h3); omega
    · have e1 := a2 _ ((h _).2 g3)
      have e2 := b2 _ ((h _).1 h3)
      omega

theorem arr_shut (hn : n.Good) (hp : p.Good) (hf : 0 ≤ frm ∧ frm < n.places) (hs : 0 ≤ start ∧ start ≤ 2880) (i : Nat) {to : Int} (ht : 0 ≤ to ∧ to < n.places) :
    getI (arrivalsL (n.shut i) p spanHi frm start (-1)) to = getI (arrivalsL n p spanHi frm start (i : Int)) to :=
  arr_unique (n := n.shut i) (q := spanHi) (q' := spanHi) (ways_ok (shut_good hn i) hp (-1)).1 (ways_ok hn hp (i : Int)).1 rfl hf hs ht fun _ => reach_shut hn hp hf hs i

theorem Trail.avoid {i : Int} {y t z u : Int} {r : List Int} (h : Trail n p y t r z u) (hi : i ∉ r) : Reach (waysL n p i) (durHi p) y t z u := by
  induction h with
  | nil => exact .refl
  | cons w hm hf hle _ ih =>
    simp only [List.mem_cons, not_or] at hi
    subst hf
    obtain ⟨g1, g2, _⟩ := waysL_iff.1 hm
    exact Reach.trans (Reach.one (dur := durHi p) (waysL_iff.2 ⟨g1, g2, fun e => hi.1 e.symm⟩) hle) (ih hi.2)

/-- Whatever path the lowest arrival needs is in the route. -/
theorem route_must (hn : n.Good) (hp : p.Good) (hf : 0 ≤ frm ∧ frm < n.places) (hs : 0 ≤ start ∧ start ≤ 2880) {to : Int} {i : Int} {r : List Int} {d : Int}
    (hr : Trail n p frm start r to (getI (arrivalsL n p spanHi frm start (-1)) to)) (hd : getI (arrivalsL n p spanHi frm start (-1)) to ≤ d) (hi : getI (arrivalsL n p spanHi frm start i) to > d) : i ∈ r := by
  by_cases h : i ∈ r
  · exact h
  · have h1 := hr.avoid h
    have h2 := (arr_spec (q := spanHi) (but := i) (ways_ok hn hp i).1 hf hs).2 to _ h1
    omega
end

/-! ### Numbers that are picked -/

theorem selL_any (q : Nat → Bool) (k i : Nat) (h : i < k) : ((selL q k).any fun y => y == (i : Int)) = q i := by
  unfold selL
  cases hq : q i with
  | true =>
    rw [List.any_eq_true]
    refine ⟨(i : Int), List.mem_map.2 ⟨i, ?_, rfl⟩, by simp⟩
    simp [h, hq]
  | false =>
    rw [List.any_eq_false]
    intro y hy hc
    obtain ⟨j, hj, rfl⟩ := List.mem_map.1 hy
    have : j = i := by have : (j : Int) = (i : Int) := by simpa using hc
                       omega
    subst this
    simp [hq] at hj

theorem selL_sorted (q : Nat → Bool) (k : Nat) : (selL q k).Pairwise (· < ·) := by
  unfold selL
  rw [List.pairwise_map]
  exact (List.Pairwise.filter _ List.pairwise_lt_range).imp fun h => by omega

theorem selL_mem {q : Nat → Bool} {k : Nat} {y : Int} (h : y ∈ selL q k) : 0 ≤ y ∧ y < k := by
  unfold selL at h
  obtain ⟨j, hj, rfl⟩ := List.mem_map.1 h
  have := List.mem_range.1 (List.mem_filter.1 hj).1
  omega
end Go.Ab
/- Plain laws of layer 1: who walks a route comes in time. -/
namespace Go.Ab
open Go.RowKit Go.Proofs
set_option maxHeartbeats 1000000

theorem posR_cons (n : Net) (p : Party) (s : Int × Int) (v : Int) (r : List Int) (i : Nat) : posR n p s (v :: r) (i + 1) = posR n p (goOn n p s v) r i := rfl

theorem pathAt_way {n : Net} {p : Party} {but : Int} {w : Nat × Path} (h : w ∈ waysL n p but) : pathAt n (w.1 : Int) = w.2 := by
  have := waysL_get h
  simp [pathAt, List.getD, this]

section
variable {n : Net} {p : Party}

theorem Trail.at {y t z u : Int} {r : List Int} (h : Trail n p y t r z u) : ∀ (i : Nat) v, r[i]? = some v → ∃ w ∈ waysL n p (-1), (w.1 : Int) = v ∧ pathAt n v = w.2 ∧ w.2.frm = (posR n p (y, t) r i).1 ∧ arriveF w.2.opens (posR n p (y, t) r i).2 (spanW w.2 p).hi ≤ 2880 := by
  induction h with
  | nil => intro i v hv; simp at hv
  | @cons y t z u r w hm hf hle hr ih =>
    intro i v hv
    have hp := pathAt_way hm
    cases i with
    | zero =>
      simp at hv
      subst hv
      exact ⟨w, hm, rfl, hp, hf, hle⟩
    | succ i =>
      rw [posR_cons]
      have hg : goOn n p (y, t) (w.1 : Int) = (w.2.to, arriveF w.2.opens t (spanW w.2 p).hi) := by unfold goOn; rw [hp]
      rw [hg]
      exact ih i v (by simpa using hv)

theorem Trail.last {y t z u : Int} {r : List Int} (h : Trail n p y t r z u) : posR n p (y, t) r r.length = (z, u) := by
  induction h with
  | nil => rfl
  | @cons y t z u r w hm hf hle hr ih =>
    rw [List.length_cons, posR_cons]
    have hg : goOn n p (y, t) (w.1 : Int) = (w.2.to, arriveF w.2.opens t (spanW w.2 p).hi) := by unfold goOn; rw [pathAt_way hm]
    rw [hg]
    exact ih

theorem Trail.walkR {y t z u : Int} {r : List Int} (h : Trail n p y t r z u) : Go.Ab.walkR n p y r = some z := by
  induction h with
  | nil => rfl
  | @cons y t z u r w hm hf hle hr ih =>
    obtain ⟨g1, g2, _⟩ := waysL_iff.1 hm
    have hlt := (List.getElem?_eq_some_iff.1 g1).1
    have ho : onB n p y (w.1 : Int) = some w.2.to := by
      unfold onB
      rw [if_pos (within_iff.2 (by omega)), Int.toNat_natCast, g1]
      simp [g2, hf]
    show List.foldl _ (onB n p y (w.1 : Int)) r = some z
    rw [ho]
    exact ih

theorem enter_mono {opens : List Span} {a b : Int} (h : a ≤ b) (hb : enterF opens b < never) : enterF opens a ≤ enterF opens b := by
  have h1 := (enter_le_iff b (enterF opens b) opens 1073741824).1 (Int.le_refl _)
  refine (enter_le_iff a (enterF opens b) opens 1073741824).2 ?_
  rcases h1 with h1 | ⟨s, q1, q2, q3⟩
  · have : (1073741824 : Int) = never := rfl
    omega
  · exact .inr ⟨s, q1, by omega, by omega⟩

/-- An arrival that there is: the minute of entering, and the time. -/
theorem arrive_enter {opens : List Span} {t d : Int} (ht : 0 ≤ t) (hd : okTime d) (h : arriveF opens t d ≤ 2880) : arriveF opens t d = enterF opens t + d ∧ enterF opens t < never ∧ t ≤ enterF opens t := by
  have hv : never = 1073741824 := rfl
  rw [arrive_eq ht hd] at h ⊢
  split at h
  · omega
  · rename_i hn
    rw [if_neg hn]
    have h1 : enterF opens t < never := by unfold okTime at hd; omega
    exact ⟨rfl, h1, enter_ge h1⟩

theorem arrive_of {opens : List Span} {t d : Int} (ht : 0 ≤ t) (hd : okTime d) (h : enterF opens t + d ≤ 2880) : arriveF opens t d = enterF opens t + d := by
  rw [arrive_eq ht hd, if_neg (by omega)]

/-- Who takes times within the spans is not later than the route says, and not sooner than the best arrivals. -/
theorem walked_trail (hn : n.Good) (hp : p.Good) {frm start z u : Int} {r ts : List Int} (hf : 0 ≤ frm ∧ frm < n.places) (hs : 0 ≤ start ∧ start ≤ 2880) (h : Trail n p frm start r z u)
    (hts : ∀ (i : Nat) v, r[i]? = some v → i < ts.length → (spanW (pathAt n v) p).lo ≤ getI ts i ∧ getI ts i ≤ (spanW (pathAt n v) p).hi) : ∀ i, i ≤ r.length →
    ∃ a, walkedAt n p r [] ts start i = some a ∧ 0 ≤ a ∧ a ≤ 2880 ∧ a ≤ (posR n p (frm, start) r i).2 ∧ getI (arrivalsL n p spanLo frm start (-1)) (posR n p (frm, start) r i).1 ≤ a ∧ (ts = [] → a = (posR n p (frm, start) r i).2) := by
  have hv : never = 1073741824 := rfl
  have okl := (ways_ok hn hp (-1)).2
  obtain ⟨A1, A2⟩ := arr_spec (q := spanLo) (but := -1) okl hf hs
  intro i
  induction i with
  | zero => exact fun _ => ⟨start, rfl, hs.1, hs.2, Int.le_refl _, A2 frm start .refl, fun _ => rfl⟩
  | succ i ih =>
    intro hi
    obtain ⟨a, e1, e2, e3, e4, e5, e6⟩ := ih (by omega)
    obtain ⟨v, hvi⟩ : ∃ v, r[i]? = some v := ⟨_, List.getElem?_eq_getElem (by omega)⟩
    obtain ⟨w, hm, hwv, hpa, hwf, hle⟩ := h.at i v hvi
    have hps := posR_succ (n := n) (p := p) (s := (frm, start)) hvi
    obtain ⟨P, hP⟩ : ∃ P, P = posR n p (frm, start) r i := ⟨_, rfl⟩
    rw [← hP] at e4 e5 e6 hwf hle hps
    have hgo : goOn n p P v = (w.2.to, arriveF w.2.opens P.2 (spanW w.2 p).hi) := by unfold goOn; rw [hpa]
    rw [hps, hgo]
    have hg := hn.path w.2 (List.mem_of_getElem? (waysL_get hm))
    obtain ⟨sp1, sp2, sp3⟩ := span_ok hg hp
    obtain ⟨h1, h2, h3⟩ := arrive_enter (by omega) sp1 hle
    have hmo := enter_mono (opens := w.2.opens) e4 h2
    have hea := enter_ge (opens := w.2.opens) (t := a) (by omega)
    obtain ⟨d, hd⟩ : ∃ d, d = if i < ts.length then getI ts i else (spanW w.2 p).hi := ⟨_, rfl⟩
    have hdr : (spanW w.2 p).lo ≤ d ∧ d ≤ (spanW w.2 p).hi := by
      rw [hd]
      split
      · rename_i hlt
        have := hts i v hvi hlt
        rw [hpa] at this
        exact this
      · exact ⟨sp3, Int.le_refl _⟩
    have hwr : wr (enterF w.2.opens a + d) = enterF w.2.opens a + d := wr_small (by unfold okTime at sp1 sp2; omega)
    have hro : roundW n p [] ts i (getI r i) a = some (enterF w.2.opens a + d) := by
      unfold roundW
      have hgi : getI r i = v := by simp [getI, List.getD, hvi]
      rw [hgi, hpa]
      simp only [List.length_nil, Nat.not_lt_zero, if_false]
      rw [if_neg (by omega), ← hd, hwr]
    refine ⟨enterF w.2.opens a + d, ?_, ?_, ?_, ?_, ?_, fun hnil => ?_⟩
    · rw [walkedAt, e1]; exact hro
    · unfold okTime at sp2; omega
    · omega
    · show _ ≤ arriveF w.2.opens P.2 (spanW w.2 p).hi
      omega
    · show getI (arrivalsL n p spanLo frm start (-1)) w.2.to ≤ _
      have hw1 := (okl w hm).1
      rw [hwf] at hw1
      rcases A1 P.1 hw1.1 hw1.2 with hb | ⟨hb1, hb2, hb3⟩
      · omega
      · have hal : arriveF w.2.opens a (spanW w.2 p).lo = enterF w.2.opens a + (spanW w.2 p).lo := arrive_of e2 sp2 (by omega)
        have hmo2 := arrive_mono (opens := w.2.opens) hb1 e5 sp2
        have := A2 w.2.to _ (Reach.step w hb3 hm hwf (by show arriveF w.2.opens _ (spanW w.2 p).lo ≤ 2880; omega))
        change _ ≤ arriveF w.2.opens _ (spanW w.2 p).lo at this
        omega
    · have hee := e6 hnil
      show _ = arriveF w.2.opens P.2 (spanW w.2 p).hi
      rw [h1, hee, hd, hnil]
      simp

theorem walkedF_of {route waits times : List Int} {start a : Int} (h : walkedAt n p route waits times start route.length = some a) : walkedF n p route start waits times = a := by
  unfold walkedF; rw [h]; rfl
end
end Go.Ab
namespace Go.Ab
open Go.RowKit Go.Proofs
set_option maxHeartbeats 4000000
set_option maxRecDepth 20000
attribute [local irreducible] WalkL Walk

/-- A route, and its sure arrival. -/
structure Track where
  paths : List Int
  arr : Int
def Track.row (t : Track) : List DV := [.sl (intRows t.paths), .i t.arr]

/-- Lower at the first place at which they differ. -/
def lexLt : List Int → List Int → Bool
  | a :: l, b :: m => if a != b then decide (a < b) else lexLt l m
  | _, _ => false
def betterB (a b : Track) : Bool :=
  if a.arr != b.arr then decide (a.arr < b.arr) else
  if (a.paths.length : Int) != (b.paths.length : Int) then decide ((a.paths.length : Int) < (b.paths.length : Int)) else lexLt a.paths b.paths

theorem f90 (a b : Track) (ha : a.paths.length < 2 ^ 30) : Fn Try.prog 90 [.agg a.row, .agg b.row] (.bool (betterB a b)) := by
  have hal := intRows_len a.paths
  have hbl := intRows_len b.paths
  refine fn_walk 59 Try.call90 Try.func90 rfl (by decide) fun J => ?_
  simp (maxSteps := 4000000) only [go_sem, St.start, Try.ntmps90, Try.results90, Track.row]
  repeat (first | refine walkL_seq ?_ | refine walkL_skip ?_ | refine walkL_block ?_ | (refine walkL_region fun K hK => ?_; simp (maxSteps := 4000000) only [go_sem]; refine hK _ ?_; clear hK K) | refine walkL_nil ?_ | refine walkL_ret ?_ | refine walkL_exit ?_ | refine blockA_here ?_ | refine blockA_other rfl ?_ | refine blockA_ret ?_ | refine blockA_normal ?_ | refine thenA_ret ?_ | refine thenA_exit ?_ | refine thenA_normal ?_)
  refine walkL_cond rfl (fun hc => ?_) (fun hc => ?_)
  · repeat (first | refine walkL_seq ?_ | refine walkL_skip ?_ | refine walkL_block ?_ | (refine walkL_region fun K hK => ?_; simp (maxSteps := 4000000) only [go_sem]; refine hK _ ?_; clear hK K) | refine walkL_nil ?_ | refine walkL_ret ?_ | refine walkL_exit ?_ | refine blockA_here ?_ | refine blockA_other rfl ?_ | refine blockA_ret ?_ | refine blockA_normal ?_ | refine thenA_ret ?_ | refine thenA_exit ?_ | refine thenA_normal ?_)
    simp (maxSteps := 4000000) only [go_sem, betterB, hc, if_true]
  · repeat (first | refine walkL_seq ?_ | refine walkL_skip ?_ | refine walkL_block ?_ | (refine walkL_region fun K hK => ?_; simp (maxSteps := 4000000) only [go_sem, hal, hbl]; refine hK _ ?_; clear hK K) | refine walkL_nil ?_ | refine walkL_ret ?_ | refine walkL_exit ?_ | refine blockA_here ?_ | refine blockA_other rfl ?_ | refine blockA_ret ?_ | refine blockA_normal ?_ | refine thenA_ret ?_ | refine thenA_exit ?_ | refine thenA_normal ?_)
    refine walkL_cond rfl (fun hd => ?_) (fun hd => ?_)
    · repeat (first | refine walkL_seq ?_ | refine walkL_skip ?_ | refine walkL_block ?_ | (refine walkL_region fun K hK => ?_; simp (maxSteps := 4000000) only [go_sem, hal, hbl]; refine hK _ ?_; clear hK K) | refine walkL_nil ?_ | refine walkL_ret ?_ | refine walkL_exit ?_ | refine blockA_here ?_ | refine blockA_other rfl ?_ | refine blockA_ret ?_ | refine blockA_normal ?_ | refine thenA_ret ?_ | refine thenA_exit ?_ | refine thenA_normal ?_)
      simp (maxSteps := 4000000) only [go_sem, betterB, hc, hd, if_true, Bool.false_eq_true, if_false]
    · have hlen : a.paths.length = b.paths.length := by
        have : (a.paths.length : Int) = (b.paths.length : Int) := by simpa using hd
        omega
      have hbe : betterB a b = lexLt a.paths b.paths := by simp only [betterB, hc, hd, Bool.false_eq_true, if_false]
      rw [hbe]
      repeat (first | refine walkL_seq ?_ | refine walkL_skip ?_ | refine walkL_block ?_ | (refine walkL_region fun K hK => ?_; simp (maxSteps := 4000000) only [go_sem]; refine hK _ ?_; clear hK K) | refine walkL_nil ?_ | refine walkL_ret ?_ | refine walkL_exit ?_ | refine blockA_here ?_ | refine blockA_other rfl ?_ | refine blockA_ret ?_ | refine blockA_normal ?_ | refine thenA_ret ?_ | refine thenA_exit ?_ | refine thenA_normal ?_)
      refine walkL_loopS (fun (i : Nat) => [(5, .d (.i i))]) (fun _ => []) (fun i => i ≤ a.paths.length ∧ lexLt a.paths b.paths = lexLt (a.paths.drop i) (b.paths.drop i)) (fun i => a.paths.length - i) 0 ?_ ⟨Nat.zero_le _, rfl⟩ ?_
      · simp (maxSteps := 4000000) only [go_sem]
        refine weak_of [] ?_ ?_ rfl rfl <;> simp [lessT, lessM, lessB, AV.less]
      · intro i ⟨hi, hlex⟩
        simp (maxSteps := 4000000) only [go_sem]
        repeat (first | refine walkL_seq ?_ | refine walkL_skip ?_ | refine walkL_block ?_ | (refine walkL_region fun K hK => ?_; simp (maxSteps := 4000000) only [go_sem, hal]; refine hK _ ?_; clear hK K) | refine walkL_nil ?_ | refine walkL_ret ?_ | refine walkL_exit ?_ | refine blockA_here ?_ | refine blockA_other rfl ?_ | refine blockA_ret ?_ | refine blockA_normal ?_ | refine thenA_ret ?_ | refine thenA_exit ?_ | refine thenA_normal ?_)
        refine walkL_cond rfl (fun hb => ?_) (fun hb => ?_)
        · have hlt : i < a.paths.length := by simpa using hb
          have hw : IntKind.i64.wrap ((i : Int) + 1) = ((i + 1 : Nat) : Int) := by rw [wr_small (by omega)]; simp
          obtain ⟨x, hx⟩ : ∃ x, a.paths[i]? = some x := ⟨_, List.getElem?_eq_getElem hlt⟩
          obtain ⟨y, hy⟩ : ∃ y, b.paths[i]? = some y := ⟨_, List.getElem?_eq_getElem (by omega)⟩
          have g1 := intRows_at hx
          have g2 := intRows_at hy
          rw [drop_get hx, drop_get hy, lexLt] at hlex
          repeat (first | refine walkL_seq ?_ | refine walkL_skip ?_ | refine walkL_block ?_ | (refine walkL_region fun K hK => ?_; simp (maxSteps := 4000000) only [go_sem]; refine hK _ ?_; clear hK K) | refine walkL_nil ?_ | refine walkL_ret ?_ | refine walkL_exit ?_ | refine blockA_here ?_ | refine blockA_other rfl ?_ | refine blockA_ret ?_ | refine blockA_normal ?_ | refine thenA_ret ?_ | refine thenA_exit ?_ | refine thenA_normal ?_)
          refine walkL_drawn (by kernel_rfl) (by kernel_rfl) fun K hK => ?_
          simp (maxSteps := 4000000) only [go_sem, g1, g2]
          refine ⟨by kernel_rfl, hK _ ?_⟩
          clear hK K
          refine walkL_cond rfl (fun he => ?_) (fun he => ?_)
          · rw [if_pos he] at hlex
            repeat (first | refine walkL_seq ?_ | refine walkL_skip ?_ | refine walkL_block ?_ | (refine walkL_region fun K hK => ?_; simp (maxSteps := 4000000) only [go_sem]; refine hK _ ?_; clear hK K) | refine walkL_nil ?_ | refine walkL_ret ?_ | refine walkL_exit ?_ | refine blockA_here ?_ | refine blockA_other rfl ?_ | refine blockA_ret ?_ | refine blockA_normal ?_ | refine thenA_ret ?_ | refine thenA_exit ?_ | refine thenA_normal ?_)
            refine walkL_drawn (by kernel_rfl) (by kernel_rfl) fun K hK => ?_
            simp (maxSteps := 4000000) only [go_sem, g1, g2]
            refine ⟨by kernel_rfl, hK _ ?_⟩
            clear hK K
            repeat (first | refine walkL_seq ?_ | refine walkL_skip ?_ | refine walkL_block ?_ | (refine walkL_region fun K hK => ?_; simp (maxSteps := 4000000) only [go_sem]; refine hK _ ?_; clear hK K) | refine walkL_nil ?_ | refine walkL_ret ?_ | refine walkL_exit ?_ | refine blockA_here ?_ | refine blockA_other rfl ?_ | refine blockA_ret ?_ | refine blockA_normal ?_ | refine thenA_ret ?_ | refine thenA_exit ?_ | refine thenA_normal ?_)
            simp (maxSteps := 4000000) only [go_sem, hlex]
          · rw [if_neg (by rw [he]; simp)] at hlex
            repeat (first | refine walkL_seq ?_ | refine walkL_skip ?_ | refine walkL_block ?_ | (refine walkL_region fun K hK => ?_; simp (maxSteps := 4000000) only [go_sem, hw]; refine hK _ ?_; clear hK K) | refine walkL_nil ?_ | refine walkL_ret ?_ | refine walkL_exit ?_ | refine blockA_here ?_ | refine blockA_other rfl ?_ | refine blockA_ret ?_ | refine blockA_normal ?_ | refine thenA_ret ?_ | refine thenA_exit ?_ | refine thenA_normal ?_)
            refine ⟨rfl, i + 1, ?_, ⟨hlt, hlex⟩, by omega⟩
            refine weak_of [] ?_ ?_ rfl rfl <;> simp [lessT, lessM, lessB, AV.less]
        · have he : i = a.paths.length := by (have : ¬ i < a.paths.length := by simpa using hb); omega
          subst he
          rw [List.drop_length] at hlex
          repeat (first | refine walkL_seq ?_ | refine walkL_skip ?_ | refine walkL_block ?_ | (refine walkL_region fun K hK => ?_; simp (maxSteps := 4000000) only [go_sem]; refine hK _ ?_; clear hK K) | refine walkL_nil ?_ | refine walkL_ret ?_ | refine walkL_exit ?_ | refine blockA_here ?_ | refine blockA_other rfl ?_ | refine blockA_ret ?_ | refine blockA_normal ?_ | refine thenA_ret ?_ | refine thenA_exit ?_ | refine thenA_normal ?_)
          simp (maxSteps := 4000000) only [go_sem, hlex, lexLt]

/-- One path more, or not. -/
def bestOf (a : Option Track) (b : Option Track) : Option Track := match b with
  | none => a
  | some x => match a with
    | none => some x
    | some y => if betterB x y then some x else a

/-- Whether a path is looked at. -/
def goesB (p : Party) (at0 : Int) (seen : List Int) (x : Path) : Bool := x.frm == at0 && (decide (x.grade ≤ p.grade) && !(seen.any fun y => y == x.to))

/-- One path looked at. -/
def stepB (n : Net) (p : Party) (at0 : Int) (t : Track) (seen : List Int) (sub : Track → List Int → Option Track) (best : Option Track) (i : Nat) : Option Track :=
  if goesB p at0 seen (pathAt n i) then
    (if stepF (pathAt n i) p t.arr true ≥ 1073741824 then best else bestOf best (sub ⟨t.paths ++ [(i : Int)], stepF (pathAt n i) p t.arr true⟩ (seen ++ [(pathAt n i).to])))
  else best

/-- The best track, of those that begin with this one. -/
def searchF (n : Net) (p : Party) (to : Int) : Nat → Track → List Int → Option Track
  | 0, _, _ => none
  | f + 1, t, seen => if getI seen ((seen.length : Int) - 1) = to then some t else
    (List.range n.paths.length).foldl (stepB n p (getI seen ((seen.length : Int) - 1)) t seen (searchF n p to f)) none

def bestRow : Option Track → List AV
  | none => [.nil, .d (.i 0)]
  | some t => [.d (.sl (intRows t.paths)), .d (.i t.arr)]
def bestVal (o : Option Track) : AV := .tup [.agg (bestRow o), .d (.bool o.isSome)]

theorem bestRow_mapN (o : Option Track) (h : Nat → Option Nat) : (bestRow o).map (AV.mapN h) = bestRow o := by cases o <;> rfl

theorem nodup_few : ∀ (m : Nat) (l : List Nat), l.Nodup → (∀ x ∈ l, x < m) → l.length ≤ m
  | 0, [], _, _ => Nat.le_refl _
  | 0, x :: l, _, h => by have := h x (by simp); omega
  | m + 1, l, hn, h => by
    by_cases hm : m ∈ l
    · have h1 := nodup_few m (l.erase m) (hn.erase m) fun x hx => by
        obtain ⟨h2, h3⟩ := hn.mem_erase_iff.1 hx
        have := h x h3
        omega
      rw [List.length_erase_of_mem hm] at h1
      omega
    · have := nodup_few m l hn fun x hx => by
        have h1 := h x hx
        have : x ≠ m := fun e => hm (e ▸ hx)
        omega
      omega

theorem seen_few {n : Net} {seen : List Int} (hr : ∀ y ∈ seen, 0 ≤ y ∧ y < n.places) (hnd : seen.Nodup) : seen.length ≤ n.places.toNat := by
  have h1 : (seen.map Int.toNat).Nodup := by
    rw [List.Nodup, List.pairwise_map]
    exact hnd.imp_of_mem fun {a b} ha hb hab => by
      have := hr a ha
      have := hr b hb
      omega
  have := nodup_few n.places.toNat (seen.map Int.toNat) h1 fun x hx => by
    obtain ⟨y, hy, rfl⟩ := List.mem_map.1 hx
    have := hr y hy
    omega
  simpa using this

theorem bestOf_of {a b : Option Track} {s : Track} (h : bestOf a b = some s) : a = some s ∨ b = some s := by
  unfold bestOf at h
  split at h
  · exact .inl h
  · split at h
    · exact .inr h
    · split at h
      · exact .inr h
      · exact .inl h

theorem searchF_len (n : Net) (p : Party) (to : Int) : ∀ (f : Nat) (t : Track) (seen : List Int) (s : Track), searchF n p to f t seen = some s → s.paths.length ≤ t.paths.length + f
  | 0, _, _, _, h => by cases h
  | f + 1, t, seen, s, h => by
    unfold searchF at h
    split at h
    · cases h; omega
    · have key : ∀ (l : List Nat) (best : Option Track), (∀ b, best = some b → b.paths.length ≤ t.paths.length + (f + 1)) → ∀ s, l.foldl (stepB n p (getI seen ((seen.length : Int) - 1)) t seen (searchF n p to f)) best = some s → s.paths.length ≤ t.paths.length + (f + 1) := by
        intro l
        induction l with
        | nil => exact fun best hb s hs => hb s hs
        | cons i l ihl =>
          intro best hb s hs
          refine ihl _ (fun b hbb => ?_) s hs
          unfold stepB at hbb
          split at hbb
          · split at hbb
            · exact hb b hbb
            · rcases bestOf_of hbb with h1 | h1
              · exact hb b h1
              · have := searchF_len n p to f _ _ b h1
                simp at this
                omega
          · exact hb b hbb
      exact key _ none (fun b hb => by cases hb) s h

theorem f53 (n : Net) (p : Party) (to : Int) (hs : n.Small) (hn : n.Good) (hp : p.Good) : ∀ (f : Nat) (t : Track) (seen : List Int), f ≤ 1000 → seen ≠ [] → (∀ y ∈ seen, 0 ≤ y ∧ y < n.places) → seen.Nodup → n.places.toNat + 1 ≤ seen.length + f → t.paths.length < seen.length → 0 ≤ t.arr →
    FnG Try.prog 53 [.arr 3 1 (intRows seen)] [0] [.d (.agg n.cells), .d (.agg p.cells), .d (.i to), .d (.agg t.row), .own 0] (bestVal (searchF n p to f t seen)) [.arr 3 1 (intRows seen)] := by
  have hpl := hn.places
  have hps := hs.paths
  intro f
  induction f with
  | zero =>
    intro t seen _ _ hr hnd hlen _ _
    exfalso
    have : seen.length ≤ n.places.toNat := seen_few hr hnd
    omega
  | succ f ih =>
    intro t seen hf1 hne hr hnd hlen htl hta
    have hsl : seen.length ≤ n.places.toNat := seen_few hr hnd
    have hsl0 : 0 < seen.length := List.length_pos_iff.2 hne
    have hsll := intRows_len seen
    obtain ⟨at0, hat⟩ : ∃ at0, at0 = getI seen ((seen.length : Int) - 1) := ⟨_, rfl⟩
    have g0 : (intRows seen)[((seen.length : Int) - 1).toNat]? = some [.i at0] := by rw [intRows_get (by omega) (by omega), hat]
    have hw0 : IntKind.i64.wrap ((seen.length : Int) - 1) = (seen.length : Int) - 1 := wr_small (by omega)
    have hlt0 : ((seen.length : Int) - 1).toNat < seen.length := by omega
    have hge0 : (0 ≤ (seen.length : Int) - 1) = True := by simp; omega
    refine fnG_walk 111 Try.call53 Try.func53 rfl (by decide) [] [(0, 4)] (by simp only [List.length_cons, List.length_nil]; decide) (by kernel_rfl) fun J => ?_
    simp (maxSteps := 4000000) only [go_sem, St.startG, Try.ntmps53, Try.results53, List.map_cons, List.map_nil, List.range_succ,  Net.cells, Party.cells, Track.row]
    by_cases hto : at0 = to
    · have hb : (at0 == to) = true := by simpa using hto
      repeat (first | refine walkL_seq ?_ | refine walkL_skip ?_ | refine walkL_block ?_ | (refine walkL_region fun K hK => ?_; simp (maxSteps := 4000000) only [go_sem, hsll, hw0, g0, hlt0, hge0, hb]; refine hK _ ?_; clear hK K) | refine walkL_nil ?_ | refine walkL_ret ?_ | refine walkL_exit ?_ | refine blockA_here ?_ | refine blockA_other rfl ?_ | refine blockA_ret ?_ | refine blockA_normal ?_ | refine thenA_ret ?_ | refine thenA_exit ?_ | refine thenA_normal ?_)
      refine walkL_true rfl ?_
      have hF : searchF n p to (f + 1) t seen = some t := by rw [searchF, ← hat, if_pos hto]
      repeat (first | refine walkL_seq ?_ | refine walkL_skip ?_ | refine walkL_block ?_ | (refine walkL_region fun K hK => ?_; simp (maxSteps := 4000000) only [go_sem]; refine hK _ ?_; clear hK K) | refine walkL_nil ?_ | refine walkL_ret ?_ | refine walkL_exit ?_ | refine blockA_here ?_ | refine blockA_other rfl ?_ | refine blockA_ret ?_ | refine blockA_normal ?_ | refine thenA_ret ?_ | refine thenA_exit ?_ | refine thenA_normal ?_)
      simp (maxSteps := 4000000) only [go_sem, hF, bestVal, bestRow, Option.isSome_some]
    · have hb : (at0 == to) = false := by simpa using hto
      obtain ⟨B, hB⟩ : ∃ B : Nat → Option Track, B = fun i => (List.range i).foldl (stepB n p at0 t seen (searchF n p to f)) none := ⟨_, rfl⟩
      have hF : searchF n p to (f + 1) t seen = B n.paths.length := by rw [searchF, ← hat, if_neg hto, hB]
      have hB0 : B 0 = none := by rw [hB]; rfl
      have hBs : ∀ i, B (i + 1) = stepB n p at0 t seen (searchF n p to f) (B i) i := fun i => by rw [hB]; simp [List.range_succ]
      rw [hF]
      have htp := intRows_len t.paths
      have hsh := intRows_head seen
      have hth := intRows_head t.paths
      repeat (first | refine walkL_seq ?_ | refine walkL_skip ?_ | refine walkL_block ?_ | (refine walkL_region fun K hK => ?_; simp (maxSteps := 4000000) only [go_sem, hsll, hw0, g0, hlt0, hge0, hb]; refine hK _ ?_; clear hK K) | refine walkL_nil ?_ | refine walkL_ret ?_ | refine walkL_exit ?_ | refine blockA_here ?_ | refine blockA_other rfl ?_ | refine blockA_ret ?_ | refine blockA_normal ?_ | refine thenA_ret ?_ | refine thenA_exit ?_ | refine thenA_normal ?_)
      refine walkL_false rfl ?_
      repeat (first | refine walkL_seq ?_ | refine walkL_skip ?_ | refine walkL_block ?_ | (refine walkL_region fun K hK => ?_; simp (maxSteps := 4000000) only [go_sem]; refine hK _ ?_; clear hK K) | refine walkL_nil ?_ | refine walkL_ret ?_ | refine walkL_exit ?_ | refine blockA_here ?_ | refine blockA_other rfl ?_ | refine blockA_ret ?_ | refine blockA_normal ?_ | refine thenA_ret ?_ | refine thenA_exit ?_ | refine thenA_normal ?_)
      refine walkL_loopS (fun (i : Nat) => [(15, .d (.i i)), (14, .d (.bool (B i).isSome)), (16, .undef), (17, .undef), (18, .undef), (19, .undef)]) (fun i => [(13, some (.box (bestRow (B i))))]) (fun i => i ≤ n.paths.length) (fun i => n.paths.length - i) 0 ?_ (Nat.zero_le _) ?_
      · simp (maxSteps := 4000000) only [go_sem, hB0, bestRow, Option.isSome_none]
        refine weak_of [] ?_ ?_ rfl rfl <;> simp [lessT, lessM, lessB, AV.less]
      · intro i hi
        obtain ⟨best, hbest⟩ : ∃ best, best = B i := ⟨_, rfl⟩
        have hBi := hBs i
        rw [← hbest] at hBi ⊢
        cases best with
        | none =>
          simp (maxSteps := 4000000) only [go_sem, bestRow, Option.isSome_none, Option.isSome_some]
          repeat (first | refine walkL_seq ?_ | refine walkL_skip ?_ | refine walkL_block ?_ | (refine walkL_region fun K hK => ?_; simp (maxSteps := 4000000) only [go_sem]; refine hK _ ?_; clear hK K) | refine walkL_nil ?_ | refine walkL_ret ?_ | refine walkL_exit ?_ | refine blockA_here ?_ | refine blockA_other rfl ?_ | refine blockA_ret ?_ | refine blockA_normal ?_ | refine thenA_ret ?_ | refine thenA_exit ?_ | refine thenA_normal ?_)
          refine walkL_cond rfl (fun hb => ?_) (fun hb => ?_)
          · have hlt : i < n.paths.length := by simpa using hb
            have hw : IntKind.i64.wrap ((i : Int) + 1) = ((i + 1 : Nat) : Int) := by rw [wr_small (by omega)]; simp
            obtain ⟨x, hx⟩ : ∃ x, n.paths[i]? = some x := ⟨_, List.getElem?_eq_getElem hlt⟩
            have hpa : pathAt n i = x := by simp [pathAt, List.getD, hx]
            have hxm := List.mem_of_getElem? hx
            have hxg := hn.path x hxm
            rw [stepB, hpa] at hBi
            have h61 := f61 n p i x hx
            have h89 := f89 seen x.to (by omega)
            have h35 := f35 n p i x t.arr true hx (by have := hs.opens x hxm; omega)
            obtain ⟨b1, hb1⟩ : ∃ b1, b1 = (x.frm != at0) := ⟨_, rfl⟩
            obtain ⟨b2, hb2⟩ : ∃ b2, b2 = decide (x.grade ≤ p.grade) := ⟨_, rfl⟩
            obtain ⟨b3, hb3⟩ : ∃ b3, b3 = seen.any fun y => y == x.to := ⟨_, rfl⟩
            have hgo : (!goesB p at0 seen x) = (b1 || ((!b2) || b3)) := by
              unfold goesB
              rw [← hb2, ← hb3, hb1]
              cases h1 : (x.frm == at0) <;> cases b2 <;> cases b3 <;> simp [bne, h1]
            rw [← hb2] at h61
            rw [← hb3] at h89
            repeat (first | refine walkL_seq ?_ | refine walkL_skip ?_ | refine walkL_block ?_ | (refine walkL_region fun K hK => ?_; simp (maxSteps := 4000000) only [go_sem]; refine hK _ ?_; clear hK K) | refine walkL_nil ?_ | refine walkL_ret ?_ | refine walkL_exit ?_ | refine blockA_here ?_ | refine blockA_other rfl ?_ | refine blockA_ret ?_ | refine blockA_normal ?_ | refine thenA_ret ?_ | refine thenA_exit ?_ | refine thenA_normal ?_)
            refine walkL_meetS [(61, .d (.bool (!goesB p at0 seen x)))] [] ?_ ?_
            · refine walkL_region fun K hK => ?_
              simp (maxSteps := 4000000) only [go_sem, hx, List.getElem?_map, Path.row, ← hb1]
              by_cases ho0 : (b1) = true
              · simp (maxSteps := 4000000) only [go_sem, hx, List.getElem?_map, Path.row, ← hb1, ho0]
                refine hK _ ?_
                clear hK K
                refine walkL_nil ?_
                refine thenA_normal ?_
                refine ⟨rfl, ?_⟩
                rw [show (!goesB p at0 seen x) = (true) from by simp [hgo, ho0]]
                simp (maxSteps := 4000000) only [go_sem]
                refine weak_of [] ?_ ?_ rfl rfl <;> simp [lessT, lessM, lessB, AV.less]
              · simp (maxSteps := 4000000) only [go_sem, hx, List.getElem?_map, Path.row, ← hb1, ho0]
                refine ⟨_, .lent (hf := h61) (hd := rfl) (hr := rfl), ?_⟩
                simp (maxSteps := 4000000) only [go_sem, hx, List.getElem?_map, Path.row, ← hb1, ho0]
                by_cases ho1 : (!b2) = true
                · simp (maxSteps := 4000000) only [go_sem, hx, List.getElem?_map, Path.row, ← hb1, ho0, ho1]
                  refine hK _ ?_
                  clear hK K
                  refine walkL_nil ?_
                  refine thenA_normal ?_
                  refine ⟨rfl, ?_⟩
                  rw [show (!goesB p at0 seen x) = (true) from by simp [hgo, ho0, ho1]]
                  simp (maxSteps := 4000000) only [go_sem]
                  refine weak_of [] ?_ ?_ rfl rfl <;> simp [lessT, lessM, lessB, AV.less]
                · simp (maxSteps := 4000000) only [go_sem, hx, List.getElem?_map, Path.row, ← hb1, ho0, ho1]
                  refine ⟨_, .lent (hf := h89) (hd := rfl) (hr := rfl), ?_⟩
                  simp (maxSteps := 4000000) only [go_sem, hx, List.getElem?_map, Path.row, ← hb1, ho0, ho1]
                  refine hK _ ?_
                  clear hK K
                  refine walkL_nil ?_
                  refine thenA_normal ?_
                  refine ⟨rfl, ?_⟩
                  rw [show (!goesB p at0 seen x) = (b3) from by simp [hgo, ho0, ho1]]
                  simp (maxSteps := 4000000) only [go_sem]
                  refine weak_of [] ?_ ?_ rfl rfl <;> simp [lessT, lessM, lessB, AV.less]
            simp (maxSteps := 4000000) only [go_sem]
            refine walkL_cond rfl (fun hc => ?_) (fun hc => ?_)
            · rw [if_neg (by rw [Bool.not_eq_true'] at hc; rw [hc]; simp)] at hBi
              repeat (first | refine walkL_seq ?_ | refine walkL_skip ?_ | refine walkL_block ?_ | (refine walkL_region fun K hK => ?_; simp (maxSteps := 4000000) only [go_sem, hw]; refine hK _ ?_; clear hK K) | refine walkL_nil ?_ | refine walkL_ret ?_ | refine walkL_exit ?_ | refine blockA_here ?_ | refine blockA_other rfl ?_ | refine blockA_ret ?_ | refine blockA_normal ?_ | refine thenA_ret ?_ | refine thenA_exit ?_ | refine thenA_normal ?_)
              refine ⟨rfl, i + 1, ?_, hlt, by omega⟩
              simp (maxSteps := 4000000) only [go_sem, hBi, bestRow, Option.isSome_none, Option.isSome_some]
              refine weak_of [] ?_ ?_ rfl rfl <;> simp [lessT, lessM, lessB, AV.less]
            · rw [if_pos (by rw [Bool.not_eq_false'] at hc; exact hc)] at hBi
              have hgt : goesB p at0 seen x = true := by rw [Bool.not_eq_false'] at hc; exact hc
              obtain ⟨av, hav⟩ : ∃ av, av = stepF x p t.arr true := ⟨_, rfl⟩
              rw [← hav] at h35 hBi
              repeat (first | refine walkL_seq ?_ | refine walkL_skip ?_ | refine walkL_block ?_ | (refine walkL_region fun K hK => ?_; simp (maxSteps := 4000000) only [go_sem, hx, List.getElem?_map, Path.row]; (repeat (first | (refine ⟨_, .lent (hf := h35) (hd := rfl) (hr := rfl), ?_⟩; simp (maxSteps := 4000000) only [go_sem, hx, List.getElem?_map, Path.row]) | (refine ⟨_, .given (hf := h35) (hd := rfl) (ha := rfl), ?_⟩; simp (maxSteps := 4000000) only [go_sem, hx, List.getElem?_map, Path.row]))); refine hK _ ?_; clear hK K) | refine walkL_nil ?_ | refine walkL_ret ?_ | refine walkL_exit ?_ | refine blockA_here ?_ | refine blockA_other rfl ?_ | refine blockA_ret ?_ | refine blockA_normal ?_ | refine thenA_ret ?_ | refine thenA_exit ?_ | refine thenA_normal ?_)
              refine walkL_cond rfl (fun hd => ?_) (fun hd => ?_)
              · rw [if_pos (by simpa using hd)] at hBi
                repeat (first | refine walkL_seq ?_ | refine walkL_skip ?_ | refine walkL_block ?_ | (refine walkL_region fun K hK => ?_; simp (maxSteps := 4000000) only [go_sem, hw]; refine hK _ ?_; clear hK K) | refine walkL_nil ?_ | refine walkL_ret ?_ | refine walkL_exit ?_ | refine blockA_here ?_ | refine blockA_other rfl ?_ | refine blockA_ret ?_ | refine blockA_normal ?_ | refine thenA_ret ?_ | refine thenA_exit ?_ | refine thenA_normal ?_)
                refine ⟨rfl, i + 1, ?_, hlt, by omega⟩
                simp (maxSteps := 4000000) only [go_sem, hBi, bestRow, Option.isSome_none, Option.isSome_some]
                refine weak_of [] ?_ ?_ rfl rfl <;> simp [lessT, lessM, lessB, AV.less]
              · rw [if_neg (by simpa using hd)] at hBi
                have hp1 : t.paths.length + 1 ≤ 549755813888 := by omega
                have hp2 : t.paths.length ≤ 549755813888 := by omega
                have hp3 : seen.length + 1 ≤ 549755813888 := by omega
                have hp4 : seen.length ≤ 549755813888 := by omega
                have hnew : x.to ∉ seen := by
                  intro hm
                  unfold goesB at hgt
                  rw [← hb3] at hgt
                  have : b3 = true := by rw [hb3]; exact List.any_eq_true.2 ⟨x.to, hm, by simp⟩
                  rw [this] at hgt
                  simp at hgt
                have ihh := ih ⟨t.paths ++ [(i : Int)], av⟩ (seen ++ [x.to]) (by omega) (by simp) (by
                    intro y hy
                    rcases List.mem_append.1 hy with hy | hy
                    · exact hr y hy
                    · have : y = x.to := by simpa using hy
                      rw [this]; exact hxg.to) (by
                    rw [List.nodup_append]
                    refine ⟨hnd, by simp, fun a ha b hb e => ?_⟩
                    have : b = x.to := by simpa using hb
                    exact hnew (by rw [← this, ← e]; exact ha)) (by simp; omega) (by simp; omega) (by
                    have hso := span_ok hxg hp
                    show 0 ≤ av
                    rw [hav, step_arrive hta hso.1 hso.2.1]
                    have hv : never = 1073741824 := rfl
                    rcases arrive_range (opens := x.opens) hta hso.1 with h | h
                    · simp only [if_true]; omega
                    · have h1 := hso.1
                      unfold okTime at h1
                      simp only [if_true]; omega)
                rw [Track.row, ← intRows_append, ← intRows_append] at ihh
                obtain ⟨sub, hsub⟩ : ∃ sub, sub = searchF n p to f ⟨t.paths ++ [(i : Int)], av⟩ (seen ++ [x.to]) := ⟨_, rfl⟩
                rw [← hsub] at ihh hBi
                have hsp : ∀ s, sub = some s → s.paths.length < 2 ^ 30 := fun s h => by
                  have := searchF_len n p to f _ _ s (hsub.symm.trans h)
                  simp at this
                  omega
                repeat (first | refine walkL_seq ?_ | refine walkL_skip ?_ | refine walkL_block ?_ | (refine walkL_region fun K hK => ?_; simp (maxSteps := 4000000) only [go_sem, htp, hth, hp1, hp2, List.length_append, List.length_cons, List.length_nil, List.nil_append]; refine hK _ ?_; clear hK K) | refine walkL_nil ?_ | refine walkL_ret ?_ | refine walkL_exit ?_ | refine blockA_here ?_ | refine blockA_other rfl ?_ | refine blockA_ret ?_ | refine blockA_normal ?_ | refine thenA_ret ?_ | refine thenA_exit ?_ | refine thenA_normal ?_)
                refine walkL_release [70] ?_
                simp (maxSteps := 4000000) only [go_sem]
                cases hsc : sub with
                | none =>
                  rw [hsc] at ihh hBi
                  refine walkL_drawnA (by kernel_rfl) (by kernel_rfl) fun K hK => ?_
                  simp (maxSteps := 4000000) only [go_sem, hsh, hsll, hp3, hp4, hx, List.getElem?_map, Path.row, List.nil_append, List.length_append]
                  refine ⟨_, .inPlace (n := 84) (hf := ihh) (hn := rfl) (hb := rfl) (hla := rfl) (ha := argG_all (by repeat (first | exact trivial | refine And.intro ?_ ?_ | exact argG_ren rfl | exact argG_deep rfl rfl))) (hx := by first | decide | simp [AV.refsAll, AV.refs, AV.refs.AV.refss]), ?_⟩
                  simp (maxSteps := 4000000) only [go_sem, bestVal, bestRow, Option.isSome_none]
                  refine ⟨by kernel_rfl, by kernel_rfl, hK _ ?_⟩
                  clear hK K
                  repeat (first | refine walkL_seq ?_ | refine walkL_skip ?_ | refine walkL_block ?_ | (refine walkL_region fun K hK => ?_; simp (maxSteps := 4000000) only [go_sem]; refine hK _ ?_; clear hK K) | refine walkL_nil ?_ | refine walkL_ret ?_ | refine walkL_exit ?_ | refine blockA_here ?_ | refine blockA_other rfl ?_ | refine blockA_ret ?_ | refine blockA_normal ?_ | refine thenA_ret ?_ | refine thenA_exit ?_ | refine thenA_normal ?_)
                  refine walkL_false rfl ?_
                  repeat (first | refine walkL_seq ?_ | refine walkL_skip ?_ | refine walkL_block ?_ | (refine walkL_region fun K hK => ?_; simp (maxSteps := 4000000) only [go_sem, hw]; refine hK _ ?_; clear hK K) | refine walkL_nil ?_ | refine walkL_ret ?_ | refine walkL_exit ?_ | refine blockA_here ?_ | refine blockA_other rfl ?_ | refine blockA_ret ?_ | refine blockA_normal ?_ | refine thenA_ret ?_ | refine thenA_exit ?_ | refine thenA_normal ?_)
                  refine ⟨rfl, i + 1, ?_, hlt, by omega⟩
                  simp (maxSteps := 4000000) only [go_sem, hBi, bestOf, bestRow, Option.isSome_none, Option.isSome_some]
                  refine weak_of [] ?_ ?_ rfl rfl <;> simp [lessT, lessM, lessB, AV.less]
                | some s =>
                  rw [hsc] at ihh hBi
                  have hsl2 := hsp s hsc
                  refine walkL_drawnA (by kernel_rfl) (by kernel_rfl) fun K hK => ?_
                  simp (maxSteps := 4000000) only [go_sem, hsh, hsll, hp3, hp4, hx, List.getElem?_map, Path.row, List.nil_append, List.length_append]
                  refine ⟨_, .inPlace (n := 84) (hf := ihh) (hn := rfl) (hb := rfl) (hla := rfl) (ha := argG_all (by repeat (first | exact trivial | refine And.intro ?_ ?_ | exact argG_ren rfl | exact argG_deep rfl rfl))) (hx := by first | decide | simp [AV.refsAll, AV.refs, AV.refs.AV.refss]), ?_⟩
                  simp (maxSteps := 4000000) only [go_sem, bestVal, bestRow, Option.isSome_some]
                  refine ⟨by kernel_rfl, by kernel_rfl, hK _ ?_⟩
                  clear hK K
                  repeat (first | refine walkL_seq ?_ | refine walkL_skip ?_ | refine walkL_block ?_ | (refine walkL_region fun K hK => ?_; simp (maxSteps := 4000000) only [go_sem]; refine hK _ ?_; clear hK K) | refine walkL_nil ?_ | refine walkL_ret ?_ | refine walkL_exit ?_ | refine blockA_here ?_ | refine blockA_other rfl ?_ | refine blockA_ret ?_ | refine blockA_normal ?_ | refine thenA_ret ?_ | refine thenA_exit ?_ | refine thenA_normal ?_)
                  refine walkL_true rfl ?_
                  repeat (first | refine walkL_seq ?_ | refine walkL_skip ?_ | refine walkL_block ?_ | (refine walkL_region fun K hK => ?_; simp (maxSteps := 4000000) only [go_sem, hw]; refine hK _ ?_; clear hK K) | refine walkL_nil ?_ | refine walkL_ret ?_ | refine walkL_exit ?_ | refine blockA_here ?_ | refine blockA_other rfl ?_ | refine blockA_ret ?_ | refine blockA_normal ?_ | refine thenA_ret ?_ | refine thenA_exit ?_ | refine thenA_normal ?_)
                  refine ⟨rfl, i + 1, ?_, hlt, by omega⟩
                  simp (maxSteps := 4000000) only [go_sem, hBi, bestOf, bestRow, Option.isSome_none, Option.isSome_some]
                  refine weak_of [] ?_ ?_ rfl rfl <;> simp [lessT, lessM, lessB, AV.less]
          · have he : i = n.paths.length := by (have : ¬ i < n.paths.length := by simpa using hb); omega
            subst he
            repeat (first | refine walkL_seq ?_ | refine walkL_skip ?_ | refine walkL_block ?_ | (refine walkL_region fun K hK => ?_; simp (maxSteps := 4000000) only [go_sem]; refine hK _ ?_; clear hK K) | refine walkL_nil ?_ | refine walkL_ret ?_ | refine walkL_exit ?_ | refine blockA_here ?_ | refine blockA_other rfl ?_ | refine blockA_ret ?_ | refine blockA_normal ?_ | refine thenA_ret ?_ | refine thenA_exit ?_ | refine thenA_normal ?_)
            simp (maxSteps := 4000000) only [go_sem, ← hbest, bestVal, bestRow, Option.isSome_none, Option.isSome_some]
        | some bt =>
          simp (maxSteps := 4000000) only [go_sem, bestRow, Option.isSome_none, Option.isSome_some]
          repeat (first | refine walkL_seq ?_ | refine walkL_skip ?_ | refine walkL_block ?_ | (refine walkL_region fun K hK => ?_; simp (maxSteps := 4000000) only [go_sem]; refine hK _ ?_; clear hK K) | refine walkL_nil ?_ | refine walkL_ret ?_ | refine walkL_exit ?_ | refine blockA_here ?_ | refine blockA_other rfl ?_ | refine blockA_ret ?_ | refine blockA_normal ?_ | refine thenA_ret ?_ | refine thenA_exit ?_ | refine thenA_normal ?_)
          refine walkL_cond rfl (fun hb => ?_) (fun hb => ?_)
          · have hlt : i < n.paths.length := by simpa using hb
            have hw : IntKind.i64.wrap ((i : Int) + 1) = ((i + 1 : Nat) : Int) := by rw [wr_small (by omega)]; simp
            obtain ⟨x, hx⟩ : ∃ x, n.paths[i]? = some x := ⟨_, List.getElem?_eq_getElem hlt⟩
            have hpa : pathAt n i = x := by simp [pathAt, List.getD, hx]
            have hxm := List.mem_of_getElem? hx
            have hxg := hn.path x hxm
            rw [stepB, hpa] at hBi
            have h61 := f61 n p i x hx
            have h89 := f89 seen x.to (by omega)
            have h35 := f35 n p i x t.arr true hx (by have := hs.opens x hxm; omega)
            obtain ⟨b1, hb1⟩ : ∃ b1, b1 = (x.frm != at0) := ⟨_, rfl⟩
            obtain ⟨b2, hb2⟩ : ∃ b2, b2 = decide (x.grade ≤ p.grade) := ⟨_, rfl⟩
            obtain ⟨b3, hb3⟩ : ∃ b3, b3 = seen.any fun y => y == x.to := ⟨_, rfl⟩
            have hgo : (!goesB p at0 seen x) = (b1 || ((!b2) || b3)) := by
              unfold goesB
              rw [← hb2, ← hb3, hb1]
              cases h1 : (x.frm == at0) <;> cases b2 <;> cases b3 <;> simp [bne, h1]
            rw [← hb2] at h61
            rw [← hb3] at h89
            repeat (first | refine walkL_seq ?_ | refine walkL_skip ?_ | refine walkL_block ?_ | (refine walkL_region fun K hK => ?_; simp (maxSteps := 4000000) only [go_sem]; refine hK _ ?_; clear hK K) | refine walkL_nil ?_ | refine walkL_ret ?_ | refine walkL_exit ?_ | refine blockA_here ?_ | refine blockA_other rfl ?_ | refine blockA_ret ?_ | refine blockA_normal ?_ | refine thenA_ret ?_ | refine thenA_exit ?_ | refine thenA_normal ?_)
            refine walkL_meetS [(61, .d (.bool (!goesB p at0 seen x)))] [] ?_ ?_
            · refine walkL_region fun K hK => ?_
              simp (maxSteps := 4000000) only [go_sem, hx, List.getElem?_map, Path.row, ← hb1]
              by_cases ho0 : (b1) = true
              · simp (maxSteps := 4000000) only [go_sem, hx, List.getElem?_map, Path.row, ← hb1, ho0]
                refine hK _ ?_
                clear hK K
                refine walkL_nil ?_
                refine thenA_normal ?_
                refine ⟨rfl, ?_⟩
                rw [show (!goesB p at0 seen x) = (true) from by simp [hgo, ho0]]
                simp (maxSteps := 4000000) only [go_sem]
                refine weak_of [] ?_ ?_ rfl rfl <;> simp [lessT, lessM, lessB, AV.less]
              · simp (maxSteps := 4000000) only [go_sem, hx, List.getElem?_map, Path.row, ← hb1, ho0]
                refine ⟨_, .lent (hf := h61) (hd := rfl) (hr := rfl), ?_⟩
                simp (maxSteps := 4000000) only [go_sem, hx, List.getElem?_map, Path.row, ← hb1, ho0]
                by_cases ho1 : (!b2) = true
                · simp (maxSteps := 4000000) only [go_sem, hx, List.getElem?_map, Path.row, ← hb1, ho0, ho1]
                  refine hK _ ?_
                  clear hK K
                  refine walkL_nil ?_
                  refine thenA_normal ?_
                  refine ⟨rfl, ?_⟩
                  rw [show (!goesB p at0 seen x) = (true) from by simp [hgo, ho0, ho1]]
                  simp (maxSteps := 4000000) only [go_sem]
                  refine weak_of [] ?_ ?_ rfl rfl <;> simp [lessT, lessM, lessB, AV.less]
                · simp (maxSteps := 4000000) only [go_sem, hx, List.getElem?_map, Path.row, ← hb1, ho0, ho1]
                  refine ⟨_, .lent (hf := h89) (hd := rfl) (hr := rfl), ?_⟩
                  simp (maxSteps := 4000000) only [go_sem, hx, List.getElem?_map, Path.row, ← hb1, ho0, ho1]
                  refine hK _ ?_
                  clear hK K
                  refine walkL_nil ?_
                  refine thenA_normal ?_
                  refine ⟨rfl, ?_⟩
                  rw [show (!goesB p at0 seen x) = (b3) from by simp [hgo, ho0, ho1]]
                  simp (maxSteps := 4000000) only [go_sem]
                  refine weak_of [] ?_ ?_ rfl rfl <;> simp [lessT, lessM, lessB, AV.less]
            simp (maxSteps := 4000000) only [go_sem]
            refine walkL_cond rfl (fun hc => ?_) (fun hc => ?_)
            · rw [if_neg (by rw [Bool.not_eq_true'] at hc; rw [hc]; simp)] at hBi
              repeat (first | refine walkL_seq ?_ | refine walkL_skip ?_ | refine walkL_block ?_ | (refine walkL_region fun K hK => ?_; simp (maxSteps := 4000000) only [go_sem, hw]; refine hK _ ?_; clear hK K) | refine walkL_nil ?_ | refine walkL_ret ?_ | refine walkL_exit ?_ | refine blockA_here ?_ | refine blockA_other rfl ?_ | refine blockA_ret ?_ | refine blockA_normal ?_ | refine thenA_ret ?_ | refine thenA_exit ?_ | refine thenA_normal ?_)
              refine ⟨rfl, i + 1, ?_, hlt, by omega⟩
              simp (maxSteps := 4000000) only [go_sem, hBi, bestRow, Option.isSome_none, Option.isSome_some]
              refine weak_of [] ?_ ?_ rfl rfl <;> simp [lessT, lessM, lessB, AV.less]
            · rw [if_pos (by rw [Bool.not_eq_false'] at hc; exact hc)] at hBi
              have hgt : goesB p at0 seen x = true := by rw [Bool.not_eq_false'] at hc; exact hc
              obtain ⟨av, hav⟩ : ∃ av, av = stepF x p t.arr true := ⟨_, rfl⟩
              rw [← hav] at h35 hBi
              repeat (first | refine walkL_seq ?_ | refine walkL_skip ?_ | refine walkL_block ?_ | (refine walkL_region fun K hK => ?_; simp (maxSteps := 4000000) only [go_sem, hx, List.getElem?_map, Path.row]; (repeat (first | (refine ⟨_, .lent (hf := h35) (hd := rfl) (hr := rfl), ?_⟩; simp (maxSteps := 4000000) only [go_sem, hx, List.getElem?_map, Path.row]) | (refine ⟨_, .given (hf := h35) (hd := rfl) (ha := rfl), ?_⟩; simp (maxSteps := 4000000) only [go_sem, hx, List.getElem?_map, Path.row]))); refine hK _ ?_; clear hK K) | refine walkL_nil ?_ | refine walkL_ret ?_ | refine walkL_exit ?_ | refine blockA_here ?_ | refine blockA_other rfl ?_ | refine blockA_ret ?_ | refine blockA_normal ?_ | refine thenA_ret ?_ | refine thenA_exit ?_ | refine thenA_normal ?_)
              refine walkL_cond rfl (fun hd => ?_) (fun hd => ?_)
              · rw [if_pos (by simpa using hd)] at hBi
                repeat (first | refine walkL_seq ?_ | refine walkL_skip ?_ | refine walkL_block ?_ | (refine walkL_region fun K hK => ?_; simp (maxSteps := 4000000) only [go_sem, hw]; refine hK _ ?_; clear hK K) | refine walkL_nil ?_ | refine walkL_ret ?_ | refine walkL_exit ?_ | refine blockA_here ?_ | refine blockA_other rfl ?_ | refine blockA_ret ?_ | refine blockA_normal ?_ | refine thenA_ret ?_ | refine thenA_exit ?_ | refine thenA_normal ?_)
                refine ⟨rfl, i + 1, ?_, hlt, by omega⟩
                simp (maxSteps := 4000000) only [go_sem, hBi, bestRow, Option.isSome_none, Option.isSome_some]
                refine weak_of [] ?_ ?_ rfl rfl <;> simp [lessT, lessM, lessB, AV.less]
              · rw [if_neg (by simpa using hd)] at hBi
                have hp1 : t.paths.length + 1 ≤ 549755813888 := by omega
                have hp2 : t.paths.length ≤ 549755813888 := by omega
                have hp3 : seen.length + 1 ≤ 549755813888 := by omega
                have hp4 : seen.length ≤ 549755813888 := by omega
                have hnew : x.to ∉ seen := by
                  intro hm
                  unfold goesB at hgt
                  rw [← hb3] at hgt
                  have : b3 = true := by rw [hb3]; exact List.any_eq_true.2 ⟨x.to, hm, by simp⟩
                  rw [this] at hgt
                  simp at hgt
                have ihh := ih ⟨t.paths ++ [(i : Int)], av⟩ (seen ++ [x.to]) (by omega) (by simp) (by
                    intro y hy
                    rcases List.mem_append.1 hy with hy | hy
                    · exact hr y hy
                    · have : y = x.to := by simpa using hy
                      rw [this]; exact hxg.to) (by
                    rw [List.nodup_append]
                    refine ⟨hnd, by simp, fun a ha b hb e => ?_⟩
                    have : b = x.to := by simpa using hb
                    exact hnew (by rw [← this, ← e]; exact ha)) (by simp; omega) (by simp; omega) (by
                    have hso := span_ok hxg hp
                    show 0 ≤ av
                    rw [hav, step_arrive hta hso.1 hso.2.1]
                    have hv : never = 1073741824 := rfl
                    rcases arrive_range (opens := x.opens) hta hso.1 with h | h
                    · simp only [if_true]; omega
                    · have h1 := hso.1
                      unfold okTime at h1
                      simp only [if_true]; omega)
                rw [Track.row, ← intRows_append, ← intRows_append] at ihh
                obtain ⟨sub, hsub⟩ : ∃ sub, sub = searchF n p to f ⟨t.paths ++ [(i : Int)], av⟩ (seen ++ [x.to]) := ⟨_, rfl⟩
                rw [← hsub] at ihh hBi
                have hsp : ∀ s, sub = some s → s.paths.length < 2 ^ 30 := fun s h => by
                  have := searchF_len n p to f _ _ s (hsub.symm.trans h)
                  simp at this
                  omega
                repeat (first | refine walkL_seq ?_ | refine walkL_skip ?_ | refine walkL_block ?_ | (refine walkL_region fun K hK => ?_; simp (maxSteps := 4000000) only [go_sem, htp, hth, hp1, hp2, List.length_append, List.length_cons, List.length_nil, List.nil_append]; refine hK _ ?_; clear hK K) | refine walkL_nil ?_ | refine walkL_ret ?_ | refine walkL_exit ?_ | refine blockA_here ?_ | refine blockA_other rfl ?_ | refine blockA_ret ?_ | refine blockA_normal ?_ | refine thenA_ret ?_ | refine thenA_exit ?_ | refine thenA_normal ?_)
                refine walkL_release [70] ?_
                simp (maxSteps := 4000000) only [go_sem]
                cases hsc : sub with
                | none =>
                  rw [hsc] at ihh hBi
                  refine walkL_drawnA (by kernel_rfl) (by kernel_rfl) fun K hK => ?_
                  simp (maxSteps := 4000000) only [go_sem, hsh, hsll, hp3, hp4, hx, List.getElem?_map, Path.row, List.nil_append, List.length_append]
                  refine ⟨_, .inPlace (n := 84) (hf := ihh) (hn := rfl) (hb := rfl) (hla := rfl) (ha := argG_all (by repeat (first | exact trivial | refine And.intro ?_ ?_ | exact argG_ren rfl | exact argG_deep rfl rfl))) (hx := by first | decide | simp [AV.refsAll, AV.refs, AV.refs.AV.refss]), ?_⟩
                  simp (maxSteps := 4000000) only [go_sem, bestVal, bestRow, Option.isSome_none]
                  refine ⟨by kernel_rfl, by kernel_rfl, hK _ ?_⟩
                  clear hK K
                  repeat (first | refine walkL_seq ?_ | refine walkL_skip ?_ | refine walkL_block ?_ | (refine walkL_region fun K hK => ?_; simp (maxSteps := 4000000) only [go_sem]; refine hK _ ?_; clear hK K) | refine walkL_nil ?_ | refine walkL_ret ?_ | refine walkL_exit ?_ | refine blockA_here ?_ | refine blockA_other rfl ?_ | refine blockA_ret ?_ | refine blockA_normal ?_ | refine thenA_ret ?_ | refine thenA_exit ?_ | refine thenA_normal ?_)
                  refine walkL_false rfl ?_
                  repeat (first | refine walkL_seq ?_ | refine walkL_skip ?_ | refine walkL_block ?_ | (refine walkL_region fun K hK => ?_; simp (maxSteps := 4000000) only [go_sem, hw]; refine hK _ ?_; clear hK K) | refine walkL_nil ?_ | refine walkL_ret ?_ | refine walkL_exit ?_ | refine blockA_here ?_ | refine blockA_other rfl ?_ | refine blockA_ret ?_ | refine blockA_normal ?_ | refine thenA_ret ?_ | refine thenA_exit ?_ | refine thenA_normal ?_)
                  refine ⟨rfl, i + 1, ?_, hlt, by omega⟩
                  simp (maxSteps := 4000000) only [go_sem, hBi, bestOf, bestRow, Option.isSome_none, Option.isSome_some]
                  refine weak_of [] ?_ ?_ rfl rfl <;> simp [lessT, lessM, lessB, AV.less]
                | some s =>
                  rw [hsc] at ihh hBi
                  have hsl2 := hsp s hsc
                  refine walkL_drawnA (by kernel_rfl) (by kernel_rfl) fun K hK => ?_
                  simp (maxSteps := 4000000) only [go_sem, hsh, hsll, hp3, hp4, hx, List.getElem?_map, Path.row, List.nil_append, List.length_append]
                  refine ⟨_, .inPlace (n := 84) (hf := ihh) (hn := rfl) (hb := rfl) (hla := rfl) (ha := argG_all (by repeat (first | exact trivial | refine And.intro ?_ ?_ | exact argG_ren rfl | exact argG_deep rfl rfl))) (hx := by first | decide | simp [AV.refsAll, AV.refs, AV.refs.AV.refss]), ?_⟩
                  simp (maxSteps := 4000000) only [go_sem, bestVal, bestRow, Option.isSome_some]
                  refine ⟨by kernel_rfl, by kernel_rfl, hK _ ?_⟩
                  clear hK K
                  have h90 := f90 s bt hsl2
                  rw [Track.row, Track.row] at h90
                  cases hbt : betterB s bt with
                  | true =>
                    rw [hbt] at h90
                    repeat (first | refine walkL_seq ?_ | refine walkL_skip ?_ | refine walkL_block ?_ | (refine walkL_region fun K hK => ?_; simp (maxSteps := 4000000) only [go_sem]; (repeat (first | (refine ⟨_, .lent (hf := h90) (hd := rfl) (hr := rfl), ?_⟩; simp (maxSteps := 4000000) only [go_sem]) | (refine ⟨_, .given (hf := h90) (hd := rfl) (ha := rfl), ?_⟩; simp (maxSteps := 4000000) only [go_sem]))); refine hK _ ?_; clear hK K) | refine walkL_nil ?_ | refine walkL_ret ?_ | refine walkL_exit ?_ | refine blockA_here ?_ | refine blockA_other rfl ?_ | refine blockA_ret ?_ | refine blockA_normal ?_ | refine thenA_ret ?_ | refine thenA_exit ?_ | refine thenA_normal ?_)
                    refine walkL_true rfl ?_
                    repeat (first | refine walkL_seq ?_ | refine walkL_skip ?_ | refine walkL_block ?_ | (refine walkL_region fun K hK => ?_; simp (maxSteps := 4000000) only [go_sem, hw]; refine hK _ ?_; clear hK K) | refine walkL_nil ?_ | refine walkL_ret ?_ | refine walkL_exit ?_ | refine blockA_here ?_ | refine blockA_other rfl ?_ | refine blockA_ret ?_ | refine blockA_normal ?_ | refine thenA_ret ?_ | refine thenA_exit ?_ | refine thenA_normal ?_)
                    refine ⟨rfl, i + 1, ?_, hlt, by omega⟩
                    simp (maxSteps := 4000000) only [go_sem, hBi, bestOf, hbt, bestRow, Option.isSome_none, Option.isSome_some, if_true]
                    refine weak_of [] ?_ ?_ rfl rfl <;> simp [lessT, lessM, lessB, AV.less]
                  | false =>
                    rw [hbt] at h90
                    repeat (first | refine walkL_seq ?_ | refine walkL_skip ?_ | refine walkL_block ?_ | (refine walkL_region fun K hK => ?_; simp (maxSteps := 4000000) only [go_sem]; (repeat (first | (refine ⟨_, .lent (hf := h90) (hd := rfl) (hr := rfl), ?_⟩; simp (maxSteps := 4000000) only [go_sem]) | (refine ⟨_, .given (hf := h90) (hd := rfl) (ha := rfl), ?_⟩; simp (maxSteps := 4000000) only [go_sem]))); refine hK _ ?_; clear hK K) | refine walkL_nil ?_ | refine walkL_ret ?_ | refine walkL_exit ?_ | refine blockA_here ?_ | refine blockA_other rfl ?_ | refine blockA_ret ?_ | refine blockA_normal ?_ | refine thenA_ret ?_ | refine thenA_exit ?_ | refine thenA_normal ?_)
                    refine walkL_false rfl ?_
                    repeat (first | refine walkL_seq ?_ | refine walkL_skip ?_ | refine walkL_block ?_ | (refine walkL_region fun K hK => ?_; simp (maxSteps := 4000000) only [go_sem, hw]; refine hK _ ?_; clear hK K) | refine walkL_nil ?_ | refine walkL_ret ?_ | refine walkL_exit ?_ | refine blockA_here ?_ | refine blockA_other rfl ?_ | refine blockA_ret ?_ | refine blockA_normal ?_ | refine thenA_ret ?_ | refine thenA_exit ?_ | refine thenA_normal ?_)
                    refine ⟨rfl, i + 1, ?_, hlt, by omega⟩
                    simp (maxSteps := 4000000) only [go_sem, hBi, bestOf, hbt, bestRow, Option.isSome_none, Option.isSome_some, Bool.false_eq_true, if_false]
                    refine weak_of [] ?_ ?_ rfl rfl <;> simp [lessT, lessM, lessB, AV.less]
          · have he : i = n.paths.length := by (have : ¬ i < n.paths.length := by simpa using hb); omega
            subst he
            repeat (first | refine walkL_seq ?_ | refine walkL_skip ?_ | refine walkL_block ?_ | (refine walkL_region fun K hK => ?_; simp (maxSteps := 4000000) only [go_sem]; refine hK _ ?_; clear hK K) | refine walkL_nil ?_ | refine walkL_ret ?_ | refine walkL_exit ?_ | refine blockA_here ?_ | refine blockA_other rfl ?_ | refine blockA_ret ?_ | refine blockA_normal ?_ | refine thenA_ret ?_ | refine thenA_exit ?_ | refine thenA_normal ?_)
            simp (maxSteps := 4000000) only [go_sem, ← hbest, bestVal, bestRow, Option.isSome_none, Option.isSome_some]
end Go.Ab
/- Plain law of layer 1: the document's search finds the route of Route. -/
namespace Go.Ab
open Go.RowKit Go.Proofs
set_option maxHeartbeats 1000000

/-! ### The order of tracks -/

theorem lexLt_irr : ∀ l : List Int, lexLt l l = false
  | [] => rfl
  | a :: l => by simp [lexLt, lexLt_irr l]

theorem lexLt_asym : ∀ a b : List Int, lexLt a b = true → lexLt b a = false
  | [], _, h => by simp [lexLt] at h
  | _ :: _, [], h => by simp [lexLt] at h
  | x :: a, y :: b, h => by
    unfold lexLt at h ⊢
    by_cases hxy : x = y
    · subst hxy
      simp at h ⊢
      exact lexLt_asym a b h
    · have h1 : ¬ y = x := fun e => hxy e.symm
      simp [hxy, h1] at h ⊢
      omega

theorem lexLt_neg : ∀ a b c : List Int, a.length = b.length → b.length = c.length → lexLt a b = false → lexLt b c = false → lexLt a c = false
  | [], _, _, _, _, _, _ => by simp [lexLt]
  | _ :: _, [], _, h, _, _, _ => by simp at h
  | _ :: _, _ :: _, [], _, h, _, _ => by simp at h
  | x :: a, y :: b, z :: c, h1, h2, hab, hbc => by
    unfold lexLt at hab hbc ⊢
    by_cases hxy : x = y
    · subst hxy
      by_cases hyz : x = z
      · subst hyz
        simp at hab hbc ⊢
        exact lexLt_neg a b c (by simpa using h1) (by simpa using h2) hab hbc
      · simp [hyz] at hab hbc ⊢
        omega
    · by_cases hyz : y = z
      · subst hyz
        simp [hxy] at hab hbc ⊢
        omega
      · simp [hxy, hyz] at hab hbc
        have : ¬ x = z := by omega
        simp [this]
        omega

theorem lex_eq : ∀ a b : List Int, a.length = b.length → lexLe a b → lexLt a b = false → a = b
  | [], [], _, _, _ => rfl
  | [], _ :: _, h, _, _ => by simp at h
  | _ :: _, [], h, _, _ => by simp at h
  | x :: a, y :: b, hl, hle, hlt => by
    unfold lexLt at hlt
    rcases hle with h | ⟨h, h'⟩
    · have : ¬ x = y := by omega
      simp [this] at hlt
      omega
    · subst h
      simp at hlt
      rw [lex_eq a b (by simpa using hl) h' hlt]

theorem better_iff {a b : Track} : betterB a b = false ↔ b.arr ≤ a.arr ∧ (a.arr = b.arr → b.paths.length ≤ a.paths.length ∧ (a.paths.length = b.paths.length → lexLt a.paths b.paths = false)) := by
  unfold betterB
  by_cases h1 : a.arr = b.arr
  · by_cases h2 : a.paths.length = b.paths.length
    · simp [h1, h2]
    · simp [h1, h2] <;> omega
  · simp [h1] <;> omega

theorem better_irr (a : Track) : betterB a a = false := better_iff.2 ⟨Int.le_refl _, fun _ => ⟨Nat.le_refl _, fun _ => lexLt_irr _⟩⟩
theorem better_neg {a b c : Track} (h1 : betterB a b = false) (h2 : betterB b c = false) : betterB a c = false := by
  rw [better_iff] at h1 h2 ⊢
  refine ⟨by omega, fun e => ?_⟩
  have e1 := h1.2 (by omega)
  have e2 := h2.2 (by omega)
  exact ⟨by omega, fun el => lexLt_neg _ b.paths _ (by omega) (by omega) (e1.2 (by omega)) (e2.2 (by omega))⟩
theorem better_asym {a b : Track} (h : betterB a b = true) : betterB b a = false := by
  rw [better_iff]
  unfold betterB at h
  by_cases h1 : a.arr = b.arr
  · simp only [h1, bne_self_eq_false, Bool.false_eq_true, if_false] at h
    by_cases h2 : a.paths.length = b.paths.length
    · simp only [h2, bne_self_eq_false, Bool.false_eq_true, if_false] at h
      exact ⟨by omega, fun _ => ⟨by omega, fun _ => lexLt_asym _ _ h⟩⟩
    · have h3 : ((a.paths.length : Int) != (b.paths.length : Int)) = true := by simp; omega
      rw [if_pos h3] at h
      have := of_decide_eq_true h
      exact ⟨by omega, fun _ => ⟨by omega, fun _ => by omega⟩⟩
  · have h3 : (a.arr != b.arr) = true := by simpa using h1
    rw [if_pos h3] at h
    have := of_decide_eq_true h
    exact ⟨by omega, fun _ => by omega⟩

/-! ### Routes that come to no place twice -/

inductive STrail (n : Net) (p : Party) : List Int → Int → Int → List Int → Int → Int → Prop where
  | nil (seen : List Int) (y t : Int) : STrail n p seen y t [] y t
  | cons {seen : List Int} {y t z u : Int} {r : List Int} (w : Nat × Path) (hm : w ∈ waysL n p (-1)) (hf : w.2.frm = y) (hne : w.2.to ∉ seen) (hle : arriveF w.2.opens t (spanW w.2 p).hi ≤ 2880)
      (h : STrail n p (seen ++ [w.2.to]) w.2.to (arriveF w.2.opens t (spanW w.2 p).hi) r z u) : STrail n p seen y t ((w.1 : Int) :: r) z u

theorem STrail.end {n : Net} {p : Party} {seen : List Int} {y t z u : Int} {r : List Int} (h : STrail n p seen y t r z u) : r ≠ [] → z ∉ seen := by
  induction h with
  | nil => intro h; exact absurd rfl h
  | @cons seen y t z u r w hm hf hne hle h ih =>
    intro _ hz
    cases r with
    | nil => cases h; exact hne hz
    | cons v r => exact ih (by simp) (by simp [hz])

section
variable {n : Net} {p : Party}

theorem Trail.mono (hn : n.Good) (hp : p.Good) {y t z u : Int} {r : List Int} (h : Trail n p y t r z u) : ∀ {t' : Int}, 0 ≤ t' → t' ≤ t → ∃ u', u' ≤ u ∧ Trail n p y t' r z u' := by
  induction h with
  | nil y t => intro t' _ h; exact ⟨t', h, .nil y t'⟩
  | @cons y t z u r w hm hf hle h ih =>
    intro t' h0 hle'
    have hok : okTime (spanW w.2 p).hi := ((ways_ok hn hp (-1)).1 w hm).2.2
    have hv : never = 1073741824 := rfl
    have hr := arrive_range (opens := w.2.opens) h0 hok
    have h1 := arrive_mono (opens := w.2.opens) h0 hle' hok
    obtain ⟨u', hu', htr⟩ := ih (t' := arriveF w.2.opens t' (spanW w.2 p).hi) (by unfold okTime at hok; rcases hr with h | h <;> omega) h1
    exact ⟨u', hu', .cons w hm hf (by omega) htr⟩

theorem Trail.simple (hn : n.Good) (hp : p.Good) {frm start : Int} (hf : 0 ≤ frm ∧ frm < n.places) (hs : 0 ≤ start ∧ start ≤ 2880) {L : Nat} {arr to : Int}
    (hmin : ∀ r u, Trail n p frm start r to u → arr ≤ u) (hL : ∀ r, Trail n p frm start r to arr → L ≤ r.length) {y t z u : Int} {r : List Int} (h : Trail n p y t r z u) :
    ∀ (seen : List Int) (k : Nat), z = to → u = arr → (∀ v ∈ seen, ∃ k' t', ReachN n p frm start k' v t' ∧ t' ≤ t ∧ k' ≤ k) → ReachN n p frm start k y t → k + r.length = L → STrail n p seen y t r z u := by
  induction h with
  | nil y t => intro seen k _ _ _ _ _; exact .nil seen y t
  | @cons y t z u r w hm hfr hle h ih =>
    intro seen k hz hu hseen hre hlen
    have hok : okTime (spanW w.2 p).hi := ((ways_ok hn hp (-1)).1 w hm).2.2
    have ht := (hre.reach.range (ways_ok hn hp (-1)).1 hs hf).1
    have hv : never = 1073741824 := rfl
    have hav : t ≤ arriveF w.2.opens t (spanW w.2 p).hi := by
      have := arrive_range (opens := w.2.opens) (by omega : 0 ≤ t) hok
      unfold okTime at hok
      rcases this with h | h <;> omega
    refine .cons w hm hfr (fun hin => ?_) hle (ih _ (k + 1) hz hu (fun v hv => ?_) (.step w hre hm hfr hle) (by simp at hlen; omega))
    · obtain ⟨k', t', hr', ht', hk'⟩ := hseen _ hin
      have h0 := (hr'.reach.range (ways_ok hn hp (-1)).1 hs hf).1
      obtain ⟨u', hu', htr⟩ := h.mono hn hp (t' := t') (by omega) (by omega)
      obtain ⟨r', hrl, htr'⟩ := hr'.trail htr
      subst hz hu
      have h1 := hmin _ _ htr'
      have : u' = u := by omega
      subst this
      have := hL _ htr'
      simp at hlen
      omega
    · rcases List.mem_append.1 hv with hv | hv
      · obtain ⟨k', t', hr', ht', hk'⟩ := hseen v hv
        exact ⟨k', t', hr', by omega, by omega⟩
      · have : v = w.2.to := by simpa using hv
        subst this
        exact ⟨k + 1, _, .step w hre hm hfr hle, Int.le_refl _, Nat.le_refl _⟩

theorem getI_last (l : List Int) (y : Int) : getI (l ++ [y]) (((l ++ [y]).length : Int) - 1) = y := by
  have : (((l ++ [y]).length : Int) - 1).toNat = l.length := by simp
  unfold getI
  rw [this]
  simp [List.getD]

theorem goes_iff {seen : List Int} {at0 : Int} {x : Path} : goesB p at0 seen x = true ↔ x.frm = at0 ∧ x.grade ≤ p.grade ∧ x.to ∉ seen := by
  unfold goesB
  have e : (seen.any fun y => y == x.to) = true ↔ x.to ∈ seen := by simp
  cases h : seen.any fun y => y == x.to
  · have : x.to ∉ seen := fun hc => by rw [e.2 hc] at h; cases h
    simp [this]
  · have := e.1 h
    simp [this]

theorem searchF_spec (hn : n.Good) (hp : p.Good) (to : Int) : ∀ (f : Nat) (t : Track) (seen : List Int), seen ≠ [] → (∀ y ∈ seen, 0 ≤ y ∧ y < n.places) → seen.Nodup → n.places.toNat + 1 ≤ seen.length + f → 0 ≤ t.arr → t.arr ≤ 2880 →
    (∀ s, searchF n p to f t seen = some s → ∃ r, s.paths = t.paths ++ r ∧ Trail n p (getI seen ((seen.length : Int) - 1)) t.arr r to s.arr) ∧
    (∀ r u, STrail n p seen (getI seen ((seen.length : Int) - 1)) t.arr r to u → ∃ s, searchF n p to f t seen = some s ∧ betterB ⟨t.paths ++ r, u⟩ s = false) := by
  intro f
  induction f with
  | zero =>
    intro t seen _ hr hnd hlen _ _
    exfalso
    have : seen.length ≤ n.places.toNat := seen_few hr hnd
    omega
  | succ f ih =>
    intro t seen hne hr hnd hlen ht0 ht1
    obtain ⟨at0, hat⟩ : ∃ at0, at0 = getI seen ((seen.length : Int) - 1) := ⟨_, rfl⟩
    have hatm : at0 ∈ seen := by
      have hl : 0 < seen.length := List.length_pos_iff.2 hne
      have : ((seen.length : Int) - 1).toNat < seen.length := by omega
      rw [hat]
      unfold getI
      rw [List.getD, List.getElem?_eq_getElem this]
      exact List.getElem_mem this
    rw [searchF, ← hat]
    by_cases hto : at0 = to
    · rw [if_pos hto]
      refine ⟨fun s hs => ?_, fun r u hst => ?_⟩
      · cases hs
        exact ⟨[], by simp, hto ▸ .nil _ _⟩
      · have hr0 : r = [] := by
          by_cases h : r = []
          · exact h
          · exact absurd (hto ▸ hatm) (hst.end h)
        subst hr0
        cases hst
        exact ⟨t, rfl, by simpa using better_irr _⟩
    · rw [if_neg hto]
      have key : ∀ k, k ≤ n.paths.length →
          (∀ s, (List.range k).foldl (stepB n p at0 t seen (searchF n p to f)) none = some s → ∃ r, s.paths = t.paths ++ r ∧ Trail n p at0 t.arr r to s.arr) ∧
          (∀ (i : Nat) r u, i < k → STrail n p seen at0 t.arr ((i : Int) :: r) to u → ∃ s, (List.range k).foldl (stepB n p at0 t seen (searchF n p to f)) none = some s ∧ betterB ⟨t.paths ++ ((i : Int) :: r), u⟩ s = false) := by
        intro k
        induction k with
        | zero => exact fun _ => ⟨fun s hs => by simp at hs, fun i r u hi => absurd hi (Nat.not_lt_zero _)⟩
        | succ k ihk =>
          intro hk
          obtain ⟨b1, b2⟩ := ihk (by omega)
          obtain ⟨best, hbest⟩ : ∃ best, best = (List.range k).foldl (stepB n p at0 t seen (searchF n p to f)) none := ⟨_, rfl⟩
          rw [List.range_succ, List.foldl_append, List.foldl_cons, List.foldl_nil, ← hbest]
          rw [← hbest] at b1 b2
          have hlt : k < n.paths.length := hk
          obtain ⟨x, hx⟩ : ∃ x, n.paths[k]? = some x := ⟨_, List.getElem?_eq_getElem hlt⟩
          have hpa : pathAt n (k : Int) = x := by simp [pathAt, List.getD, hx]
          have hxm := List.mem_of_getElem? hx
          have hxg := hn.path x hxm
          have hso := span_ok hxg hp
          have hst : stepF x p t.arr true = arriveF x.opens t.arr (spanW x p).hi := by rw [step_arrive ht0 hso.1 hso.2.1]; simp
          have hv : never = 1073741824 := rfl
          have har := arrive_range (opens := x.opens) ht0 hso.1
          have hinv : ∀ r u, STrail n p seen at0 t.arr ((k : Int) :: r) to u → goesB p at0 seen x = true ∧ arriveF x.opens t.arr (spanW x p).hi ≤ 2880 ∧ STrail n p (seen ++ [x.to]) x.to (arriveF x.opens t.arr (spanW x p).hi) r to u := by
            intro r u h
            generalize hq : (k : Int) :: r = q at h
            cases h with
            | nil => cases hq
            | cons w hm hf hne hle h =>
              have hq1 : (k : Int) = (w.1 : Int) := by injection hq
              have hq2 := (List.cons.inj hq).2
              subst hq2
              obtain ⟨h1, h2, _⟩ := waysL_iff.1 hm
              have : w.1 = k := by omega
              rw [this, hx] at h1
              cases h1
              exact ⟨goes_iff.2 ⟨hf, h2, hne⟩, hle, h⟩
          rw [stepB, hpa]
          by_cases hg : goesB p at0 seen x = true
          · rw [if_pos hg]
            obtain ⟨g1, g2, g3⟩ := goes_iff.1 hg
            rw [hst]
            by_cases hnv : arriveF x.opens t.arr (spanW x p).hi ≥ 1073741824
            · rw [if_pos hnv]
              refine ⟨b1, fun i r u hi h => ?_⟩
              by_cases hik : i = k
              · subst hik
                have := (hinv r u h).2.1
                omega
              · exact b2 i r u (by omega) h
            · rw [if_neg hnv]
              have hle : arriveF x.opens t.arr (spanW x p).hi ≤ 2880 := by rcases har with h | h <;> omega
              have hge : 0 ≤ arriveF x.opens t.arr (spanW x p).hi := by
                have h1 := hso.1
                unfold okTime at h1
                rcases har with h | h <;> omega
              have hw : ((k, x) : Nat × Path) ∈ waysL n p (-1) := waysL_iff.2 ⟨hx, g2, by simp⟩
              obtain ⟨s1, s2⟩ := ih ⟨t.paths ++ [(k : Int)], arriveF x.opens t.arr (spanW x p).hi⟩ (seen ++ [x.to]) (by simp) (by
                  intro y hy
                  rcases List.mem_append.1 hy with hy | hy
                  · exact hr y hy
                  · have : y = x.to := by simpa using hy
                    rw [this]; exact hxg.to) (by
                  rw [List.nodup_append]
                  refine ⟨hnd, by simp, fun a ha b hb e => ?_⟩
                  have : b = x.to := by simpa using hb
                  exact g3 (by rw [← this, ← e]; exact ha)) (by simp; omega) hge hle
              rw [getI_last] at s1 s2
              obtain ⟨sub, hsub⟩ : ∃ sub, sub = searchF n p to f ⟨t.paths ++ [(k : Int)], arriveF x.opens t.arr (spanW x p).hi⟩ (seen ++ [x.to]) := ⟨_, rfl⟩
              rw [← hsub] at s1 s2 ⊢
              have S1 : ∀ s, sub = some s → ∃ r, s.paths = t.paths ++ r ∧ Trail n p at0 t.arr r to s.arr := fun s h => by
                obtain ⟨r, h1, h2⟩ := s1 s h
                exact ⟨(k : Int) :: r, by simpa using h1, .cons (k, x) hw g1 hle h2⟩
              have S2 : ∀ r u, STrail n p seen at0 t.arr ((k : Int) :: r) to u → ∃ s, sub = some s ∧ betterB ⟨t.paths ++ ((k : Int) :: r), u⟩ s = false := fun r u h => by
                obtain ⟨s, h1, h2⟩ := s2 r u (hinv r u h).2.2
                exact ⟨s, h1, by simpa using h2⟩
              refine ⟨fun s hs => ?_, fun i r u hi h => ?_⟩
              · rcases bestOf_of hs with h | h
                · exact b1 s h
                · exact S1 s h
              · by_cases hik : i = k
                · subst hik
                  obtain ⟨s, h1, h2⟩ := S2 r u h
                  rw [h1]
                  cases hb : best with
                  | none => exact ⟨s, rfl, h2⟩
                  | some b =>
                    unfold bestOf
                    dsimp only
                    by_cases hbt : betterB s b = true
                    · rw [if_pos hbt]; exact ⟨s, rfl, h2⟩
                    · rw [if_neg hbt]; exact ⟨b, rfl, better_neg h2 (by simpa using hbt)⟩
                · obtain ⟨b, h1, h2⟩ := b2 i r u (by omega) h
                  rw [h1]
                  cases hs : sub with
                  | none => exact ⟨b, rfl, h2⟩
                  | some s =>
                    unfold bestOf
                    dsimp only
                    by_cases hbt : betterB s b = true
                    · rw [if_pos hbt]; exact ⟨s, rfl, better_neg h2 (better_asym hbt)⟩
                    · rw [if_neg hbt]; exact ⟨b, rfl, h2⟩
          · rw [if_neg hg]
            refine ⟨b1, fun i r u hi h => ?_⟩
            by_cases hik : i = k
            · subst hik
              exact absurd (hinv r u h).1 hg
            · exact b2 i r u (by omega) h
      obtain ⟨k1, k2⟩ := key _ (Nat.le_refl _)
      refine ⟨k1, fun r u h => ?_⟩
      cases r with
      | nil => cases h; exact absurd rfl hto
      | cons v r =>
        have hv : ∃ i : Nat, v = (i : Int) ∧ i < n.paths.length := by
          generalize hq : v :: r = q at h
          cases h with
          | nil => cases hq
          | cons w hm hf hne hle h =>
            have := (waysL_iff.1 hm).1
            exact ⟨w.1, (List.cons.inj hq).1, (List.getElem?_eq_some_iff.1 this).1⟩
        obtain ⟨i, rfl, hi⟩ := hv
        exact k2 i r u hi h

/-- The search finds what Route returns. -/
theorem search_eq (hn : n.Good) (hp : p.Good) {frm start to : Int} (hf : 0 ≤ frm ∧ frm < n.places) (ht : 0 ≤ to ∧ to < n.places) (hs : 0 ≤ start ∧ start ≤ 2880) :
    searchF n p to (n.places.toNat + 1) ⟨[], start⟩ [frm] = if getI (arrivalsL n p spanHi frm start (-1)) to = never then none else some ⟨(routeL n p frm start to).1, getI (arrivalsL n p spanHi frm start (-1)) to⟩ := by
  obtain ⟨h1, h2⟩ := searchF_spec hn hp to (n.places.toNat + 1) ⟨[], start⟩ [frm] (by simp) (by simpa using hf) (by simp) (by simp) hs.1 hs.2
  have hg : getI [frm] (([frm].length : Int) - 1) = frm := rfl
  rw [hg] at h1 h2
  obtain ⟨a1, a2⟩ := arr_spec (q := spanHi) (but := -1) (ways_ok hn hp (-1)).1 hf hs
  have hv : never = 1073741824 := rfl
  by_cases hne : getI (arrivalsL n p spanHi frm start (-1)) to = never
  · rw [if_pos hne]
    cases hsr : searchF n p to (n.places.toNat + 1) ⟨[], start⟩ [frm] with
    | none => rfl
    | some s =>
      exfalso
      obtain ⟨r, _, htr⟩ := h1 s hsr
      have e1 := a2 _ _ htr.reach
      have e2 := (htr.reach.range (ways_ok hn hp (-1)).1 hs hf).2.1
      omega
  · rw [if_neg hne]
    obtain ⟨r, hr, hrl, htr, hmin, hlex⟩ := routeL_spec hn hp hf ht hs hne
    have hst := htr.simple hn hp hf hs (L := r.length) (arr := getI (arrivalsL n p spanHi frm start (-1)) to) (to := to) (fun r u h => a2 _ _ h.reach) hmin [frm] 0 rfl rfl
      (fun v hv => by have : v = frm := by simpa using hv
                      subst this; exact ⟨0, start, .refl, Int.le_refl _, Nat.le_refl _⟩) .refl (by simp)
    obtain ⟨s, hs1, hs2⟩ := h2 r _ hst
    obtain ⟨r', hr1, htr'⟩ := h1 s hs1
    rw [hs1, hr]
    have e1 := a2 _ _ htr'.reach
    obtain ⟨sp, sa⟩ := s
    simp only [List.nil_append] at hr1 hs2 htr' e1
    subst hr1
    rw [better_iff] at hs2
    dsimp only at hs2
    have e2 : sa = getI (arrivalsL n p spanHi frm start (-1)) to := by omega
    subst e2
    have e3 := hs2.2 rfl
    have e4 := hmin _ htr'
    have e5 : r.length = sp.length := by omega
    have := lex_eq r sp e5 (hlex _ htr' e5.symm) (e3.2 e5)
    rw [this]
end
end Go.Ab
namespace Go.Ab
open Go.RowKit Go.Proofs
set_option maxHeartbeats 4000000
set_option maxRecDepth 20000
attribute [local irreducible] WalkL Walk

/-- The document's Route is the program's. -/
theorem f16 (n : Net) (p : Party) (frm start to : Int) (hs : n.Small) : Fn Try.prog 16 [.agg n.cells, .agg p.cells, .i frm, .i start, .i to]
    (.tup [.sl (intRows (routeL n p frm start to).1), .i (routeL n p frm start to).2.1, .i (routeL n p frm start to).2.2]) := by
  have h52 := f52 n p [frm, to] [start] hs (by simp) (by simp)
  refine fn_walk 44 Try.call16 Try.func16 rfl (by decide) fun J => ?_
  simp (maxSteps := 4000000) only [go_sem, St.start, Try.ntmps16, Try.results16, Net.cells, Party.cells]
  repeat (first | refine walkL_seq ?_ | refine walkL_skip ?_ | refine walkL_block ?_ | (refine walkL_region fun K hK => ?_; simp (maxSteps := 4000000) only [go_sem]; (repeat (first | (refine ⟨_, .lent (hf := h52) (hd := rfl) (hr := rfl), ?_⟩; simp (maxSteps := 4000000) only [go_sem]) | (refine ⟨_, .given (hf := h52) (hd := rfl) (ha := rfl), ?_⟩; simp (maxSteps := 4000000) only [go_sem]))); refine hK _ ?_; clear hK K) | refine walkL_nil ?_ | refine walkL_ret ?_ | refine walkL_exit ?_ | refine blockA_here ?_ | refine blockA_other rfl ?_ | refine blockA_ret ?_ | refine blockA_normal ?_ | refine thenA_ret ?_ | refine thenA_exit ?_ | refine thenA_normal ?_)
  refine walkL_cond rfl (fun hc => ?_) (fun hc => ?_)
  · have hc : ¬ openF n p [frm, to] [start] = 0 := by simpa using hc
    have hr : routeL n p frm start to = ([], 0, openF n p [frm, to] [start]) := by unfold routeL; rw [if_neg hc]
    rw [hr]
    repeat (first | refine walkL_seq ?_ | refine walkL_skip ?_ | refine walkL_block ?_ | (refine walkL_region fun K hK => ?_; simp (maxSteps := 4000000) only [go_sem]; refine hK _ ?_; clear hK K) | refine walkL_nil ?_ | refine walkL_ret ?_ | refine walkL_exit ?_ | refine blockA_here ?_ | refine blockA_other rfl ?_ | refine blockA_ret ?_ | refine blockA_normal ?_ | refine thenA_ret ?_ | refine thenA_exit ?_ | refine thenA_normal ?_)
    simp (maxSteps := 4000000) only [go_sem]
    try rfl
  · have hop : openF n p [frm, to] [start] = 0 := by simpa using hc
    have ho := open_iff.1 hop
    have hf := ho.place frm (by simp)
    have ht := ho.place to (by simp)
    have hst := ho.minute start (by simp)
    have hpl := ho.net.places
    have h53 := f53 n p to hs ho.net ho.party (n.places.toNat + 1) ⟨[], start⟩ [frm] (by omega) (by simp) (by simpa using hf) (by simp) (by simp) (by simp) hst.1
    rw [search_eq ho.net ho.party hf ht hst] at h53
    by_cases hne : getI (arrivalsL n p spanHi frm start (-1)) to = never
    · rw [if_pos hne] at h53
      have hr := routeL_never hop hne
      rw [hr]
      repeat (first | refine walkL_seq ?_ | refine walkL_skip ?_ | refine walkL_block ?_ | (refine walkL_region fun K hK => ?_; simp (maxSteps := 4000000) only [go_sem]; refine hK _ ?_; clear hK K) | refine walkL_nil ?_ | refine walkL_ret ?_ | refine walkL_exit ?_ | refine blockA_here ?_ | refine blockA_other rfl ?_ | refine blockA_ret ?_ | refine blockA_normal ?_ | refine thenA_ret ?_ | refine thenA_exit ?_ | refine thenA_normal ?_)
      refine walkL_region fun K hK => ?_
      simp (maxSteps := 4000000) only [go_sem]
      refine ⟨_, .inPlace (n := 34) (hf := h53) (hn := rfl) (hb := rfl) (hla := rfl) (ha := argG_all (by repeat (first | exact trivial | refine And.intro ?_ ?_ | exact argG_ren rfl | exact argG_deep rfl rfl))), ?_⟩
      simp (maxSteps := 4000000) only [go_sem, bestVal, bestRow, Option.isSome_none]
      refine hK _ ?_
      clear hK K
      repeat (first | refine walkL_seq ?_ | refine walkL_skip ?_ | refine walkL_block ?_ | (refine walkL_region fun K hK => ?_; simp (maxSteps := 4000000) only [go_sem]; refine hK _ ?_; clear hK K) | refine walkL_nil ?_ | refine walkL_ret ?_ | refine walkL_exit ?_ | refine blockA_here ?_ | refine blockA_other rfl ?_ | refine blockA_ret ?_ | refine blockA_normal ?_ | refine thenA_ret ?_ | refine thenA_exit ?_ | refine thenA_normal ?_)
      refine walkL_true rfl ?_
      repeat (first | refine walkL_seq ?_ | refine walkL_skip ?_ | refine walkL_block ?_ | (refine walkL_region fun K hK => ?_; simp (maxSteps := 4000000) only [go_sem]; refine hK _ ?_; clear hK K) | refine walkL_nil ?_ | refine walkL_ret ?_ | refine walkL_exit ?_ | refine blockA_here ?_ | refine blockA_other rfl ?_ | refine blockA_ret ?_ | refine blockA_normal ?_ | refine thenA_ret ?_ | refine thenA_exit ?_ | refine thenA_normal ?_)
      simp (maxSteps := 4000000) only [go_sem]
      try rfl
    · rw [if_neg hne] at h53
      obtain ⟨r, hr, hrl, _⟩ := routeL_spec ho.net ho.party hf ht hst hne
      rw [hr] at h53 ⊢
      obtain ⟨arr, harr⟩ : ∃ arr, arr = getI (arrivalsL n p spanHi frm start (-1)) to := ⟨_, rfl⟩
      rw [← harr] at h53 ⊢
      repeat (first | refine walkL_seq ?_ | refine walkL_skip ?_ | refine walkL_block ?_ | (refine walkL_region fun K hK => ?_; simp (maxSteps := 4000000) only [go_sem]; refine hK _ ?_; clear hK K) | refine walkL_nil ?_ | refine walkL_ret ?_ | refine walkL_exit ?_ | refine blockA_here ?_ | refine blockA_other rfl ?_ | refine blockA_ret ?_ | refine blockA_normal ?_ | refine thenA_ret ?_ | refine thenA_exit ?_ | refine thenA_normal ?_)
      refine walkL_region fun K hK => ?_
      simp (maxSteps := 4000000) only [go_sem]
      refine ⟨_, .inPlace (n := 34) (hf := h53) (hn := rfl) (hb := rfl) (hla := rfl) (ha := argG_all (by repeat (first | exact trivial | refine And.intro ?_ ?_ | exact argG_ren rfl | exact argG_deep rfl rfl))), ?_⟩
      simp (maxSteps := 4000000) only [go_sem, bestVal, bestRow, Option.isSome_some]
      refine hK _ ?_
      clear hK K
      repeat (first | refine walkL_seq ?_ | refine walkL_skip ?_ | refine walkL_block ?_ | (refine walkL_region fun K hK => ?_; simp (maxSteps := 4000000) only [go_sem]; refine hK _ ?_; clear hK K) | refine walkL_nil ?_ | refine walkL_ret ?_ | refine walkL_exit ?_ | refine blockA_here ?_ | refine blockA_other rfl ?_ | refine blockA_ret ?_ | refine blockA_normal ?_ | refine thenA_ret ?_ | refine thenA_exit ?_ | refine thenA_normal ?_)
      refine walkL_false rfl ?_
      repeat (first | refine walkL_seq ?_ | refine walkL_skip ?_ | refine walkL_block ?_ | (refine walkL_region fun K hK => ?_; simp (maxSteps := 4000000) only [go_sem]; refine hK _ ?_; clear hK K) | refine walkL_nil ?_ | refine walkL_ret ?_ | refine walkL_exit ?_ | refine blockA_here ?_ | refine blockA_other rfl ?_ | refine blockA_ret ?_ | refine blockA_normal ?_ | refine thenA_ret ?_ | refine thenA_exit ?_ | refine thenA_normal ?_)
      refine walkL_drawn (by kernel_rfl) (by kernel_rfl) fun K hK => ?_
      simp (maxSteps := 4000000) only [go_sem]
      refine ⟨by kernel_rfl, hK _ ?_⟩
      clear hK K
      repeat (first | refine walkL_seq ?_ | refine walkL_skip ?_ | refine walkL_block ?_ | (refine walkL_region fun K hK => ?_; simp (maxSteps := 4000000) only [go_sem]; refine hK _ ?_; clear hK K) | refine walkL_nil ?_ | refine walkL_ret ?_ | refine walkL_exit ?_ | refine blockA_here ?_ | refine blockA_other rfl ?_ | refine blockA_ret ?_ | refine blockA_normal ?_ | refine thenA_ret ?_ | refine thenA_exit ?_ | refine thenA_normal ?_)
      simp (maxSteps := 4000000) only [go_sem]
end Go.Ab
namespace Go.Ab
open Go.RowKit Go.Proofs
set_option maxHeartbeats 4000000
set_option maxRecDepth 20000
attribute [local irreducible] WalkL Walk

theorem routeL_len (n : Net) (p : Party) (frm start to : Int) : (routeL n p frm start to).1.length < 2 ^ 30 := by
  by_cases hop : openF n p [frm, to] [start] = 0
  · have ho := open_iff.1 hop
    have hpl := ho.net.places
    by_cases hne : getI (arrivalsL n p spanHi frm start (-1)) to = never
    · rw [routeL_never hop hne]; simp
    · obtain ⟨r, hr, hrl, _⟩ := routeL_spec ho.net ho.party (ho.place frm (by simp)) (ho.place to (by simp)) (ho.minute start (by simp)) hne
      rw [hr]
      dsimp only
      omega
  · unfold routeL; rw [if_neg hop]; simp

theorem f3 (n : Net) (p : Party) (x : Trip) (hs : n.Small) : Fn Try.prog 3 [.agg n.cells, .agg p.cells, .agg x.row] (.bool true) := by
  have h12 := f12 n hs
  have h14 := f14 n hs
  rw [Net.cells] at h14
  have h15 := f15' n p x.frm x.start x.to hs
  have h16 := f16 n p x.frm x.start x.to hs
  have h18 := f18 n p x.frm x.to x.deadline hs
  have h19 := f19 n p x.frm x.to x.deadline hs
  rw [latest_eq] at h19
  have hrl := routeL_len n p x.frm x.start x.to
  obtain ⟨r, hr⟩ : ∃ r, r = routeL n p x.frm x.start x.to := ⟨_, rfl⟩
  obtain ⟨l, hl⟩ : ∃ l, l = latestL n p x.frm x.to x.deadline := ⟨_, rfl⟩
  rw [← hr] at h15 h16 hrl
  rw [← hl] at h18 h19
  have e1 := f17same r.1 hrl
  have n1 : (r.2.1 != r.2.1) = false := by simp
  have n2 : (r.2.2 != r.2.2) = false := by simp
  have n3 : (l.1 == l.1) = true := by simp
  have n4 : (l.2 == l.2) = true := by simp
  refine fn_walk 94 Try.call3 Try.func3 rfl (by decide) fun J => ?_
  simp (maxSteps := 4000000) only [go_sem, St.start, Try.ntmps3, Try.results3, Net.cells, Party.cells, Trip.row]
  by_cases hfar : farB n = true
  · repeat (first | refine walkL_seq ?_ | refine walkL_skip ?_ | refine walkL_block ?_ | (refine walkL_region fun K hK => ?_; simp (maxSteps := 4000000) only [go_sem, hfar]; (repeat (first | (refine ⟨_, .lent (hf := h12) (hd := rfl) (hr := rfl), ?_⟩; simp (maxSteps := 4000000) only [go_sem, hfar]) | (refine ⟨_, .given (hf := h12) (hd := rfl) (ha := rfl), ?_⟩; simp (maxSteps := 4000000) only [go_sem, hfar]))); refine hK _ ?_; clear hK K) | refine walkL_nil ?_ | refine walkL_ret ?_ | refine walkL_exit ?_ | refine blockA_here ?_ | refine blockA_other rfl ?_ | refine blockA_ret ?_ | refine blockA_normal ?_ | refine thenA_ret ?_ | refine thenA_exit ?_ | refine thenA_normal ?_)
    refine walkL_true rfl ?_
    repeat (first | refine walkL_seq ?_ | refine walkL_skip ?_ | refine walkL_block ?_ | (refine walkL_region fun K hK => ?_; simp (maxSteps := 4000000) only [go_sem]; (repeat (first | (refine ⟨_, .lent (hf := f13) (hd := rfl) (hr := rfl), ?_⟩; simp (maxSteps := 4000000) only [go_sem]) | (refine ⟨_, .given (hf := f13) (hd := rfl) (ha := rfl), ?_⟩; simp (maxSteps := 4000000) only [go_sem]))); refine hK _ ?_; clear hK K) | refine walkL_nil ?_ | refine walkL_ret ?_ | refine walkL_exit ?_ | refine blockA_here ?_ | refine blockA_other rfl ?_ | refine blockA_ret ?_ | refine blockA_normal ?_ | refine thenA_ret ?_ | refine thenA_exit ?_ | refine thenA_normal ?_)
    simp (maxSteps := 4000000) only [go_sem]
  · have hfar' : farB n = false := by simpa using hfar
    repeat (first | refine walkL_seq ?_ | refine walkL_skip ?_ | refine walkL_block ?_ | (refine walkL_region fun K hK => ?_; simp (maxSteps := 4000000) only [go_sem, hfar']; (repeat (first | (refine ⟨_, .lent (hf := h12) (hd := rfl) (hr := rfl), ?_⟩; simp (maxSteps := 4000000) only [go_sem, hfar']) | (refine ⟨_, .given (hf := h12) (hd := rfl) (ha := rfl), ?_⟩; simp (maxSteps := 4000000) only [go_sem, hfar']))); refine hK _ ?_; clear hK K) | refine walkL_nil ?_ | refine walkL_ret ?_ | refine walkL_exit ?_ | refine blockA_here ?_ | refine blockA_other rfl ?_ | refine blockA_ret ?_ | refine blockA_normal ?_ | refine thenA_ret ?_ | refine thenA_exit ?_ | refine thenA_normal ?_)
    refine walkL_false rfl ?_
    repeat (first | refine walkL_seq ?_ | refine walkL_skip ?_ | refine walkL_block ?_ | (refine walkL_region fun K hK => ?_; simp (maxSteps := 4000000) only [go_sem, n1, n2]; (repeat (first | (refine ⟨_, .lent (hf := h14) (hd := rfl) (hr := rfl), ?_⟩; simp (maxSteps := 4000000) only [go_sem, n1, n2]) | (refine ⟨_, .lent (hf := h15) (hd := rfl) (hr := rfl), ?_⟩; simp (maxSteps := 4000000) only [go_sem, n1, n2]) | (refine ⟨_, .lent (hf := h16) (hd := rfl) (hr := rfl), ?_⟩; simp (maxSteps := 4000000) only [go_sem, n1, n2]) | (refine ⟨_, .lent (hf := e1) (hd := rfl) (hr := rfl), ?_⟩; simp (maxSteps := 4000000) only [go_sem, n1, n2]) | (refine ⟨_, .given (hf := h14) (hd := rfl) (ha := rfl), ?_⟩; simp (maxSteps := 4000000) only [go_sem, n1, n2]) | (refine ⟨_, .given (hf := h15) (hd := rfl) (ha := rfl), ?_⟩; simp (maxSteps := 4000000) only [go_sem, n1, n2]) | (refine ⟨_, .given (hf := h16) (hd := rfl) (ha := rfl), ?_⟩; simp (maxSteps := 4000000) only [go_sem, n1, n2]) | (refine ⟨_, .given (hf := e1) (hd := rfl) (ha := rfl), ?_⟩; simp (maxSteps := 4000000) only [go_sem, n1, n2]))); refine hK _ ?_; clear hK K) | refine walkL_nil ?_ | refine walkL_ret ?_ | refine walkL_exit ?_ | refine blockA_here ?_ | refine blockA_other rfl ?_ | refine blockA_ret ?_ | refine blockA_normal ?_ | refine thenA_ret ?_ | refine thenA_exit ?_ | refine thenA_normal ?_)
    refine walkL_false rfl ?_
    repeat (first | refine walkL_seq ?_ | refine walkL_skip ?_ | refine walkL_block ?_ | (refine walkL_region fun K hK => ?_; simp (maxSteps := 4000000) only [go_sem, n3, n4]; (repeat (first | (refine ⟨_, .lent (hf := h18) (hd := rfl) (hr := rfl), ?_⟩; simp (maxSteps := 4000000) only [go_sem, n3, n4]) | (refine ⟨_, .lent (hf := h19) (hd := rfl) (hr := rfl), ?_⟩; simp (maxSteps := 4000000) only [go_sem, n3, n4]) | (refine ⟨_, .lent (hf := f13) (hd := rfl) (hr := rfl), ?_⟩; simp (maxSteps := 4000000) only [go_sem, n3, n4]) | (refine ⟨_, .given (hf := h18) (hd := rfl) (ha := rfl), ?_⟩; simp (maxSteps := 4000000) only [go_sem, n3, n4]) | (refine ⟨_, .given (hf := h19) (hd := rfl) (ha := rfl), ?_⟩; simp (maxSteps := 4000000) only [go_sem, n3, n4]) | (refine ⟨_, .given (hf := f13) (hd := rfl) (ha := rfl), ?_⟩; simp (maxSteps := 4000000) only [go_sem, n3, n4]))); refine hK _ ?_; clear hK K) | refine walkL_nil ?_ | refine walkL_ret ?_ | refine walkL_exit ?_ | refine blockA_here ?_ | refine blockA_other rfl ?_ | refine blockA_ret ?_ | refine blockA_normal ?_ | refine thenA_ret ?_ | refine thenA_exit ?_ | refine thenA_normal ?_)
    simp (maxSteps := 4000000) only [go_sem]
end Go.Ab
