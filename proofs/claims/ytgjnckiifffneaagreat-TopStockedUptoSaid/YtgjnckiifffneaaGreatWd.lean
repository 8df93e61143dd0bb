/- A walk engine over abstract states, and the contracts of the functions that the statement reaches: part 4. -/
import Derived.Test.YtgjnckiifffneaaGreatWc
import Derived.ChangeArms
import Derived.Test.YtgjnckiifffneaaGreatRows
import Derived.JoinedCond
import Derived.Carry
import Derived.RowKit
set_option linter.unusedVariables false
set_option linter.unusedSimpArgs false
set_option linter.unnecessarySimpa false
namespace Go.Ab
open Go.RowKit Go.Proofs
set_option maxHeartbeats 4000000
set_option maxRecDepth 20000
attribute [local irreducible] WalkL Walk
def hullH (a b : Hour) : Hour := ⟨hullS a.wind b.wind, hullS a.rain b.rain, hullS a.temp b.temp⟩
def hullAll (S : List (List Hour)) (h : Int) : Hour := S.foldl (fun o l => hullH o (hourAt l h)) (hourAt (hd0 S) h)
def rangeF (F : List (List Hour)) (seen : List Sight) (h : Int) : Hour × Int :=
  if lookF F seen 0 (withinB h 0 ((hd0 F).length - 1)) = 0 then (hullAll (scensOf (possL F seen)) h, 0) else (noHour, lookF F seen 0 (withinB h 0 ((hd0 F).length - 1)))
def atF (seen : List Sight) (l : List Hour) (h : Int) : Hour := match seen.find? (fun s => s.hour == h) with
  | some s => pointH s.sky
  | none => hourAt l h
theorem hull_step {S : List (List Hour)} {h : Int} {i : Nat} {l : List Hour} (hl : S[i]? = some l) (b : Hour) :
    (S.take (i + 1)).foldl (fun o l => hullH o (hourAt l h)) b = hullH ((S.take i).foldl (fun o l => hullH o (hourAt l h)) b) (hourAt l h) := z41 _ _ _ _ _ hl
theorem zf70 (F : List (List Hour)) (seen : List Sight) (h : Int) (hs : ForeSmall F) (hsl : seen.length < 2 ^ 30) :
    Fn Tryz.prog 70 [.agg [.sl (scenRows F)], .sl (sightRows seen), .i h] (.tup [.agg (rangeF F seen h).1.row, .i (rangeF F seen h).2]) := by
  obtain ⟨t, ht⟩ : ∃ t, t = withinB h 0 ((hd0 F).length - 1) := ⟨_, rfl⟩
  have h39 := zf109 F seen 0 t hs hsl
  have h52 := z291 h 0 ((hd0 F).length - 1)
  rw [← ht] at h52
  obtain ⟨e, he⟩ : ∃ e, e = lookF F seen 0 t := ⟨_, rfl⟩
  have hr : rangeF F seen h = if e = 0 then (hullAll (scensOf (possL F seen)) h, 0) else (noHour, e) := by rw [he, ht]; rfl
  rw [hr]
  rw [← he] at h39
  have hF := hs.scen
  -- how many hours there are
  have hhd : (hd0 F).length < 2 ^ 30 := by
    cases F with
    | nil => simp [hd0]
    | cons a l => exact hs.hours a (by simp)
  have wH : IntKind.i64.wrap (((hd0 F).length : Int) - 1) = (hd0 F).length - 1 := z23 (by omega)
  refine z21 80 Tryz.call70 Tryz.func70 rfl (by decide) fun J => ?_
  simp (maxSteps := 4000000) only [go_sem, St.start, Tryz.ntmps70, Tryz.results70]
  repeat (first | refine z14 ?_ | refine z9 ?_ | refine z7 ?_ | (refine z5 fun K hK => ?_; simp (maxSteps := 4000000) only [go_sem]; refine hK _ ?_; clear hK K) | refine z13 ?_ | refine z15 ?_ | refine z10 ?_ | refine z8 ?_ | refine z6 rfl ?_ | refine z12 ?_ | refine z3 ?_ | refine z16 ?_ | refine z11 ?_ | refine z4 ?_)
  cases q1 : decide ((F.length : Int) > 0)
  · have hF0 : F = [] := by
      have := of_decide_eq_false q1
      exact List.length_eq_zero_iff.1 (by omega)
    subst hF0
    have he50 : e = 50 := he
    have h0 : ¬ e = 0 := by omega
    have wH1 : IntKind.i64.wrap (-1) = -1 := z23 (by decide)
    have e2 : (((hd0 ([] : List (List Hour))).length : Int) - 1) = -1 := rfl
    rw [e2] at h52
    rw [if_neg h0] at h39
    have hz : (e != 0) = true := by simpa using h0
    repeat (first | refine z18 rfl ?_ | refine z17 rfl ?_ | refine z14 ?_ | refine z9 ?_ | refine z7 ?_ | (refine z5 fun K hK => ?_; simp (maxSteps := 4000000) only [go_sem, q1]; refine hK _ ?_; clear hK K) | refine z13 ?_ | refine z15 ?_ | refine z10 ?_ | refine z8 ?_ | refine z6 rfl ?_ | refine z12 ?_ | refine z3 ?_ | refine z16 ?_ | refine z11 ?_ | refine z4 ?_)
    refine z24 (by kernel_rfl) (by kernel_rfl) fun K hK => ?_
    simp (maxSteps := 4000000) only [go_sem, wH1]
    refine ⟨_, .fn (hf := h52) (hd := rfl) (hr := .inr rfl), ?_⟩
    simp (maxSteps := 4000000) only [go_sem]
    refine ⟨_, .fn (hf := h39) (hd := rfl) (hr := .inr rfl), ?_⟩
    simp (maxSteps := 4000000) only [go_sem]
    refine ⟨by kernel_rfl, hK _ ?_⟩
    clear hK K
    repeat (first | refine z18 rfl ?_ | refine z17 rfl ?_ | refine z14 ?_ | refine z9 ?_ | refine z7 ?_ | (refine z5 fun K hK => ?_; simp (maxSteps := 4000000) only [go_sem, hz]; refine hK _ ?_; clear hK K) | refine z13 ?_ | refine z15 ?_ | refine z10 ?_ | refine z8 ?_ | refine z6 rfl ?_ | refine z12 ?_ | refine z3 ?_ | refine z16 ?_ | refine z11 ?_ | refine z4 ?_)
    simp (maxSteps := 4000000) only [go_sem, noHour, Hour.row, if_neg h0]
    try rfl
  · have hg0 : (scenRows F)[0]? = some [.sl (hourRows (hd0 F))] := z35 (z72 (by have := of_decide_eq_true q1; omega))
    repeat (first | refine z18 rfl ?_ | refine z17 rfl ?_ | refine z14 ?_ | refine z9 ?_ | refine z7 ?_ | (refine z5 fun K hK => ?_; simp (maxSteps := 4000000) only [go_sem, q1, hg0]; refine hK _ ?_; clear hK K) | refine z13 ?_ | refine z15 ?_ | refine z10 ?_ | refine z8 ?_ | refine z6 rfl ?_ | refine z12 ?_ | refine z3 ?_ | refine z16 ?_ | refine z11 ?_ | refine z4 ?_)
    refine z24 (by kernel_rfl) (by kernel_rfl) fun K hK => ?_
    simp (maxSteps := 4000000) only [go_sem, wH]
    refine ⟨_, .fn (hf := h52) (hd := rfl) (hr := .inr rfl), ?_⟩
    simp (maxSteps := 4000000) only [go_sem]
    refine ⟨_, .fn (hf := h39) (hd := rfl) (hr := .inr rfl), ?_⟩
    simp (maxSteps := 4000000) only [go_sem]
    refine ⟨by kernel_rfl, hK _ ?_⟩
    clear hK K
    by_cases h0 : e = 0
    · rw [if_pos h0, lookV] at *
      have hz : (e != 0) = false := by simp [h0]
      rw [h0] at he
      obtain ⟨hgood, hsi, hne, hin⟩ : ForeGood F ∧ sightsB (hd0 F).length seen = true ∧ possL F seen ≠ [] ∧ t = true := by
        unfold lookF at he
        cases hb : badF F
        · cases hq : sightsB (hd0 F).length seen
          · rw [hb, hq] at he; simp at he
          · cases t
            · rw [hb, hq] at he; simp at he
            · refine ⟨z155.1 hb, rfl, ?_, rfl⟩
              intro hc
              rw [hb, hq, hc] at he
              simp at he
        · rw [hb] at he; simp at he
      rw [hin] at ht
      have hwi := z27.1 ht.symm
      obtain ⟨S, hS⟩ : ∃ S, S = scensOf (possL F seen) := ⟨_, rfl⟩
      rw [← hS]
      have hlen : ∀ l ∈ S, h.toNat < l.length := fun l hl => by
        rw [hS] at hl
        obtain ⟨x, hx, rfl⟩ := List.mem_map.1 hl
        obtain ⟨k, hk⟩ := List.getElem?_of_mem hx
        obtain ⟨l0, _, hl0, e1, _⟩ := poss_get F 0 k x.1 x.2 hk
        rw [e1, z83, hgood.len l0 (List.mem_of_getElem? hl0)]
        omega
      have hSne : S ≠ [] := fun hc => hne (by rw [hS] at hc; exact List.map_eq_nil_iff.1 hc)
      have hSl : S.length ≤ F.length := by rw [hS, scensOf, List.length_map]; exact z82 _ _ _
      obtain ⟨s0, hs0⟩ : ∃ s0, S[0]? = some s0 := by
        cases S with
        | nil => exact absurd rfl hSne
        | cons a l => exact ⟨a, rfl⟩
      have ehd : hd0 S = s0 := by
        cases S with
        | nil => exact absurd rfl hSne
        | cons a l => simp at hs0; subst hs0; rfl
      have g0 := z35 hs0
      have k0 := hwi.1
      have g1 := z44 (z66 (l := s0) (i := h) ⟨hwi.1, hlen s0 (List.mem_of_getElem? hs0)⟩)
      have hall : hullAll S h = S.foldl (fun o l => hullH o (hourAt l h)) (hourAt s0 h) := by unfold hullAll; rw [ehd]
      rw [hall]
      obtain ⟨b0, hb0⟩ : ∃ b0, b0 = hourAt s0 h := ⟨_, rfl⟩
      rw [← hb0] at g1 ⊢
      repeat (first | refine z18 rfl ?_ | refine z17 rfl ?_ | refine z14 ?_ | refine z9 ?_ | refine z7 ?_ | (refine z5 fun K hK => ?_; simp (maxSteps := 4000000) only [go_sem, hz, g0, g1, k0, Hour.row]; refine hK _ ?_; clear hK K) | refine z13 ?_ | refine z15 ?_ | refine z10 ?_ | refine z8 ?_ | refine z6 rfl ?_ | refine z12 ?_ | refine z3 ?_ | refine z16 ?_ | refine z11 ?_ | refine z4 ?_)
      refine z22 (fun (i : Nat) => [(54, .d (.i i)), (13, .undef), (14, .undef)]) (fun i => [(11, some (.box (((S.take i).foldl (fun o l => hullH o (hourAt l h)) b0).row.map AV.d)))]) (fun i => i ≤ S.length) (fun i => S.length - i) 0 ?_ (Nat.zero_le _) ?_
      · simp (maxSteps := 4000000) only [go_sem, Hour.row, List.take_zero, List.foldl_nil, List.map_cons, List.map_nil]
        refine z19 [] ?_ ?_ rfl rfl <;> simp [lessT, lessM, lessB, AV.less]
        all_goals first | done | rfl
      · intro i hi
        obtain ⟨o, ho⟩ : ∃ o, o = (S.take i).foldl (fun o l => hullH o (hourAt l h)) b0 := ⟨_, rfl⟩
        rw [← ho]
        simp (maxSteps := 4000000) only [go_sem, Hour.row, List.map_cons, List.map_nil]
        repeat (first | refine z14 ?_ | refine z9 ?_ | refine z7 ?_ | (refine z5 fun K hK => ?_; simp (maxSteps := 4000000) only [go_sem]; refine hK _ ?_; clear hK K) | refine z13 ?_ | refine z15 ?_ | refine z10 ?_ | refine z8 ?_ | refine z6 rfl ?_ | refine z12 ?_ | refine z3 ?_ | refine z16 ?_ | refine z11 ?_ | refine z4 ?_)
        refine z20 rfl (fun hb => ?_) (fun hb => ?_)
        · have hlt : i < S.length := by simpa using hb
          have hw : IntKind.i64.wrap ((i : Int) + 1) = ((i + 1 : Nat) : Int) := by rw [z23 (by omega)]; simp
          obtain ⟨l, hx⟩ : ∃ l, S[i]? = some l := ⟨_, List.getElem?_eq_getElem hlt⟩
          have g3 := z35 hx
          have g4 := z44 (z66 (l := l) (i := h) ⟨hwi.1, hlen l (List.mem_of_getElem? hx)⟩)
          have hst := hull_step (h := h) hx b0
          rw [← ho] at hst
          obtain ⟨y, hy⟩ : ∃ y, y = hourAt l h := ⟨_, rfl⟩
          rw [← hy] at g4 hst
          have c1 := zf111 o.wind y.wind
          have c2 := zf111 o.rain y.rain
          have c3 := zf111 o.temp y.temp
          rw [Span.row, Span.row, Span.row] at c1 c2 c3
          repeat (first | refine z14 ?_ | refine z9 ?_ | refine z7 ?_ | (refine z5 fun K hK => ?_; simp (maxSteps := 4000000) only [go_sem, g3, g4, k0, Hour.row]; refine hK _ ?_; clear hK K) | refine z13 ?_ | refine z15 ?_ | refine z10 ?_ | refine z8 ?_ | refine z6 rfl ?_ | refine z12 ?_ | refine z3 ?_ | refine z16 ?_ | refine z11 ?_ | refine z4 ?_)
          refine z24 (by kernel_rfl) (by kernel_rfl) fun K hK => ?_
          simp (maxSteps := 4000000) only [go_sem]
          refine ⟨_, .fn (hf := c1) (hd := rfl) (hr := .inl rfl), ?_⟩
          simp (maxSteps := 4000000) only [go_sem]
          refine ⟨_, .fn (hf := c2) (hd := rfl) (hr := .inl rfl), ?_⟩
          simp (maxSteps := 4000000) only [go_sem]
          refine ⟨_, .fn (hf := c3) (hd := rfl) (hr := .inl rfl), ?_⟩
          simp (maxSteps := 4000000) only [go_sem]
          refine ⟨by kernel_rfl, hK _ ?_⟩
          clear hK K
          repeat (first | refine z14 ?_ | refine z9 ?_ | refine z7 ?_ | (refine z5 fun K hK => ?_; simp (maxSteps := 4000000) only [go_sem, hw]; refine hK _ ?_; clear hK K) | refine z13 ?_ | refine z15 ?_ | refine z10 ?_ | refine z8 ?_ | refine z6 rfl ?_ | refine z12 ?_ | refine z3 ?_ | refine z16 ?_ | refine z11 ?_ | refine z4 ?_)
          refine ⟨rfl, i + 1, ?_, hlt, by omega⟩
          rw [hst]
          refine z19 [] ?_ ?_ rfl rfl <;> simp [lessT, lessM, lessB, AV.less]
          all_goals first | done | rfl | simp [hullH, Hour.row]
        · have he : i = S.length := by (have : ¬ i < S.length := by simpa using hb); omega
          subst he
          rw [List.take_length] at ho
          rw [← ho]
          repeat (first | refine z14 ?_ | refine z9 ?_ | refine z7 ?_ | (refine z5 fun K hK => ?_; simp (maxSteps := 4000000) only [go_sem]; refine hK _ ?_; clear hK K) | refine z13 ?_ | refine z15 ?_ | refine z10 ?_ | refine z8 ?_ | refine z6 rfl ?_ | refine z12 ?_ | refine z3 ?_ | refine z16 ?_ | refine z11 ?_ | refine z4 ?_)
          simp (maxSteps := 4000000) only [go_sem, h0]
    · rw [if_neg h0] at *
      have hz : (e != 0) = true := by simpa using h0
      repeat (first | refine z18 rfl ?_ | refine z17 rfl ?_ | refine z14 ?_ | refine z9 ?_ | refine z7 ?_ | (refine z5 fun K hK => ?_; simp (maxSteps := 4000000) only [go_sem, hz]; refine hK _ ?_; clear hK K) | refine z13 ?_ | refine z15 ?_ | refine z10 ?_ | refine z8 ?_ | refine z6 rfl ?_ | refine z12 ?_ | refine z3 ?_ | refine z16 ?_ | refine z11 ?_ | refine z4 ?_)
      simp (maxSteps := 4000000) only [go_sem, noHour, Hour.row, if_neg h0]
      try rfl
end Go.Ab
namespace Go.Ab
open Go.RowKit Go.Proofs
set_option maxHeartbeats 4000000
set_option maxRecDepth 20000
attribute [local irreducible] WalkL Walk
def boolRows (l : List Bool) : List (List DV) := l.map fun x => [.bool x]
theorem boolRows_len (l : List Bool) : (boolRows l).length = l.length := by simp [boolRows]
theorem boolRows_at {l : List Bool} {i : Nat} {x : Bool} (h : l[i]? = some x) : (boolRows l)[i]? = some [.bool x] := by simp [boolRows, h]
theorem boolRows_head (l : List Bool) : headIs 1 (boolRows l) = true := by cases l <;> rfl
theorem boolRows_push (l : List Bool) (x : Bool) : boolRows (l ++ [x]) = boolRows l ++ [[.bool x]] := by simp [boolRows]
def spanRows (l : List Span) : List (List DV) := l.map Span.row
theorem spanRows_len (l : List Span) : (spanRows l).length = l.length := by simp [spanRows]
theorem z249 {l : List Span} {i : Nat} {x : Span} (h : l[i]? = some x) : (spanRows l)[i]? = some x.row := by simp [spanRows, h]
theorem spanRows_head (l : List Span) : headIs 2 (spanRows l) = true := by cases l <;> rfl
theorem spanRows_push (l : List Span) (x : Span) : spanRows (l ++ [x]) = spanRows l ++ [x.row] := by simp [spanRows]
theorem z70 (l : List Bool) : rowsFlat (boolRows l) := z65 (by intro x d hd; simp at hd; subst hd; rfl) l
theorem z68 (l : List Span) : rowsFlat (spanRows l) := z65 (by intro x d hd; simp [Span.row] at hd; rcases hd with rfl | rfl <;> rfl) l
attribute [go_sem] boolRows_len boolRows_head spanRows_len spanRows_head
theorem zf75 (l : List Hour) (g : Nat) (a : DV) (q : Hour → Bool) (hq : ∀ h ∈ l, Fn Tryz.prog g [a, .agg h.row] (.bool (q h))) (hl : l.length < 2 ^ 30) : Fn Tryz.prog 75 [.sl (hourRows l), .bnd g [a]] (.sl (boolRows (l.map q))) := by
  refine z21 21 Tryz.call75 Tryz.func75 rfl (by decide) fun J => ?_
  simp (maxSteps := 4000000) only [go_sem, St.start, Tryz.ntmps75, Tryz.results75]
  repeat (first | refine z14 ?_ | refine z9 ?_ | refine z7 ?_ | (refine z5 fun K hK => ?_; simp (maxSteps := 4000000) only [go_sem]; refine hK _ ?_; clear hK K) | refine z13 ?_ | refine z15 ?_ | refine z10 ?_ | refine z8 ?_ | refine z6 rfl ?_ | refine z12 ?_ | refine z3 ?_ | refine z16 ?_ | refine z11 ?_ | refine z4 ?_)
  refine z22 (fun (i : Nat) => [(9, .d (.i i)), (4, .own 18)]) (fun i => [(18, some (.arr 4 1 (boolRows ((l.take i).map q))))]) (fun i => i ≤ l.length) (fun i => l.length - i) 0 ?_ (Nat.zero_le _) ?_
  · simp (maxSteps := 4000000) only [go_sem]
    refine z19 [18] ?_ ?_ rfl rfl <;> simp [lessT, lessM, lessB, AV.less]
    all_goals first | done | rfl
  · intro i hi
    simp (maxSteps := 4000000) only [go_sem]
    repeat (first | refine z14 ?_ | refine z9 ?_ | refine z7 ?_ | (refine z5 fun K hK => ?_; simp (maxSteps := 4000000) only [go_sem]; refine hK _ ?_; clear hK K) | refine z13 ?_ | refine z15 ?_ | refine z10 ?_ | refine z8 ?_ | refine z6 rfl ?_ | refine z12 ?_ | refine z3 ?_ | refine z16 ?_ | refine z11 ?_ | refine z4 ?_)
    refine z20 rfl (fun hb => ?_) (fun hb => ?_)
    · have hlt : i < l.length := by simpa using hb
      have hw : IntKind.i64.wrap ((i : Int) + 1) = ((i + 1 : Nat) : Int) := by rw [z23 (by omega)]; simp
      obtain ⟨h, hx⟩ : ∃ h, l[i]? = some h := ⟨_, List.getElem?_eq_getElem hlt⟩
      have g1 := z44 hx
      have hq1 := hq h (List.mem_of_getElem? hx)
      rw [Hour.row] at hq1
      have htk : (l.take (i + 1)).map q = (l.take i).map q ++ [q h] := by rw [List.take_add_one, hx]; simp
      obtain ⟨A, hA⟩ : ∃ A, A = (l.take i).map q := ⟨_, rfl⟩
      have hAl : A.length = i := by rw [hA]; simp; omega
      have hn : A.length + 1 ≤ 549755813888 := by omega
      rw [← hA] at htk ⊢
      repeat (first | refine z14 ?_ | refine z9 ?_ | refine z7 ?_ | (refine z5 fun K hK => ?_; simp (maxSteps := 4000000) only [go_sem, g1, Hour.row, hn, hw]; (repeat (first | (refine ⟨_, .lent (hf := hq1) (hd := rfl) (hr := rfl), ?_⟩; simp (maxSteps := 4000000) only [go_sem, g1, Hour.row, hn, hw]) | (refine ⟨_, .given (hf := hq1) (hd := rfl) (ha := rfl), ?_⟩; simp (maxSteps := 4000000) only [go_sem, g1, Hour.row, hn, hw]))); refine hK _ ?_; clear hK K) | refine z13 ?_ | refine z15 ?_ | refine z10 ?_ | refine z8 ?_ | refine z6 rfl ?_ | refine z12 ?_ | refine z3 ?_ | refine z16 ?_ | refine z11 ?_ | refine z4 ?_)
      refine ⟨rfl, i + 1, ?_, hlt, by omega⟩
      rw [htk, boolRows_push]
      refine z19 [] ?_ ?_ rfl rfl <;> simp [lessT, lessM, lessB, AV.less]
      all_goals first | done | rfl
    · have he : i = l.length := by (have : ¬ i < l.length := by simpa using hb); omega
      subst he
      rw [List.take_length]
      repeat (first | refine z14 ?_ | refine z9 ?_ | refine z7 ?_ | (refine z5 fun K hK => ?_; simp (maxSteps := 4000000) only [go_sem]; refine hK _ ?_; clear hK K) | refine z13 ?_ | refine z15 ?_ | refine z10 ?_ | refine z8 ?_ | refine z6 rfl ?_ | refine z12 ?_ | refine z3 ?_ | refine z16 ?_ | refine z11 ?_ | refine z4 ?_)
      simp (maxSteps := 4000000) only [go_sem]
def beginsFrom (n : Int) : List Bool → Nat → Int → Int
  | [], _, _ => -1
  | b :: l, i, run => if (if b then run + 1 else 0) = n then (i : Int) + 1 - n else beginsFrom n l (i + 1) (if b then run + 1 else 0)
def beginsF (l : List Bool) (n : Int) : Int := beginsFrom n l 0 0
theorem zf74 (l : List Bool) (n : Int) (hn : 1 ≤ n ∧ n ≤ 1000) (hl : l.length < 2 ^ 30) : Fn Tryz.prog 74 [.sl (boolRows l), .i n] (.i (beginsF l n)) := by
  obtain ⟨S, hS⟩ : ∃ S, S = beginsF l n := ⟨_, rfl⟩
  rw [← hS]
  refine z21 27 Tryz.call74 Tryz.func74 rfl (by decide) fun J => ?_
  simp (maxSteps := 4000000) only [go_sem, St.start, Tryz.ntmps74, Tryz.results74]
  repeat (first | refine z14 ?_ | refine z9 ?_ | refine z7 ?_ | (refine z5 fun K hK => ?_; simp (maxSteps := 4000000) only [go_sem]; refine hK _ ?_; clear hK K) | refine z13 ?_ | refine z15 ?_ | refine z10 ?_ | refine z8 ?_ | refine z6 rfl ?_ | refine z12 ?_ | refine z3 ?_ | refine z16 ?_ | refine z11 ?_ | refine z4 ?_)
  refine z22 (fun (a : Nat × Int) => [(10, .d (.i a.1)), (5, .d (.i a.2)), (6, .undef), (7, .undef)]) (fun _ => []) (fun a => a.1 ≤ l.length ∧ (0 ≤ a.2 ∧ a.2 ≤ a.1) ∧ S = beginsFrom n (l.drop a.1) a.1 a.2) (fun a => l.length - a.1) (0, 0) ?_ ⟨Nat.zero_le _, ⟨Int.le_refl _, Int.le_refl _⟩, hS⟩ ?_
  · simp (maxSteps := 4000000) only [go_sem]
    refine z19 [] ?_ ?_ rfl rfl <;> simp [lessT, lessM, lessB, AV.less]
    all_goals first | done | rfl
  · rintro ⟨i, run⟩ ⟨hi, ⟨r0, r1⟩, hs⟩
    dsimp only at hi r0 r1 hs
    simp (maxSteps := 4000000) only [go_sem]
    repeat (first | refine z14 ?_ | refine z9 ?_ | refine z7 ?_ | (refine z5 fun K hK => ?_; simp (maxSteps := 4000000) only [go_sem]; refine hK _ ?_; clear hK K) | refine z13 ?_ | refine z15 ?_ | refine z10 ?_ | refine z8 ?_ | refine z6 rfl ?_ | refine z12 ?_ | refine z3 ?_ | refine z16 ?_ | refine z11 ?_ | refine z4 ?_)
    refine z20 rfl (fun hb => ?_) (fun hb => ?_)
    · have hlt : i < l.length := by simpa using hb
      have hw : IntKind.i64.wrap ((i : Int) + 1) = ((i + 1 : Nat) : Int) := by rw [z23 (by omega)]; simp
      obtain ⟨b, hx⟩ : ∃ b, l[i]? = some b := ⟨_, List.getElem?_eq_getElem hlt⟩
      have g1 := boolRows_at hx
      have wr1 : IntKind.i64.wrap (run + 1) = run + 1 := z23 (by omega)
      have wr2 : IntKind.i64.wrap ((i : Int) + 1 - n) = (i : Int) + 1 - n := z23 (by omega)
      have hw' : IntKind.i64.wrap ((i : Int) + 1) = (i : Int) + 1 := by rw [hw]; omega
      rw [z30 hx, beginsFrom] at hs
      cases b
      · have n0 : ¬ ((0 : Int) = n) := by omega
        have n1 : ((0 : Int) == n) = false := by simp; omega
        simp only [Bool.false_eq_true, if_false, if_neg n0] at hs
        repeat (first | refine z18 rfl ?_ | refine z17 rfl ?_ | refine z14 ?_ | refine z9 ?_ | refine z7 ?_ | (refine z5 fun K hK => ?_; simp (maxSteps := 4000000) only [go_sem, g1, wr1, n1, hw]; refine hK _ ?_; clear hK K) | refine z13 ?_ | refine z15 ?_ | refine z10 ?_ | refine z8 ?_ | refine z6 rfl ?_ | refine z12 ?_ | refine z3 ?_ | refine z16 ?_ | refine z11 ?_ | refine z4 ?_)
        refine ⟨rfl, (i + 1, 0), ?_, ⟨hlt, ⟨Int.le_refl _, by dsimp only; omega⟩, hs⟩, by dsimp only; omega⟩
        refine z19 [] ?_ ?_ rfl rfl <;> simp [lessT, lessM, lessB, AV.less]
        all_goals first | done | rfl
      · simp only [if_true] at hs
        cases q : (run + 1 == n)
        · have n0 : ¬ (run + 1 = n) := by simpa using q
          rw [if_neg n0] at hs
          repeat (first | refine z18 rfl ?_ | refine z17 rfl ?_ | refine z14 ?_ | refine z9 ?_ | refine z7 ?_ | (refine z5 fun K hK => ?_; simp (maxSteps := 4000000) only [go_sem, g1, wr1, q, hw]; refine hK _ ?_; clear hK K) | refine z13 ?_ | refine z15 ?_ | refine z10 ?_ | refine z8 ?_ | refine z6 rfl ?_ | refine z12 ?_ | refine z3 ?_ | refine z16 ?_ | refine z11 ?_ | refine z4 ?_)
          refine ⟨rfl, (i + 1, run + 1), ?_, ⟨hlt, ⟨by dsimp only; omega, by dsimp only; omega⟩, hs⟩, by dsimp only; omega⟩
          refine z19 [] ?_ ?_ rfl rfl <;> simp [lessT, lessM, lessB, AV.less]
          all_goals first | done | rfl
        · have n0 : run + 1 = n := by simpa using q
          rw [if_pos n0] at hs
          rw [hs]
          repeat (first | refine z18 rfl ?_ | refine z17 rfl ?_ | refine z14 ?_ | refine z9 ?_ | refine z7 ?_ | (refine z5 fun K hK => ?_; simp (maxSteps := 4000000) only [go_sem, g1, wr1, q, hw', wr2]; refine hK _ ?_; clear hK K) | refine z13 ?_ | refine z15 ?_ | refine z10 ?_ | refine z8 ?_ | refine z6 rfl ?_ | refine z12 ?_ | refine z3 ?_ | refine z16 ?_ | refine z11 ?_ | refine z4 ?_)
          simp (maxSteps := 4000000) only [go_sem]
    · have he : i = l.length := by (have : ¬ i < l.length := by simpa using hb); omega
      subst he
      rw [List.drop_length, beginsFrom] at hs
      rw [hs]
      repeat (first | refine z14 ?_ | refine z9 ?_ | refine z7 ?_ | (refine z5 fun K hK => ?_; simp (maxSteps := 4000000) only [go_sem]; refine hK _ ?_; clear hK K) | refine z13 ?_ | refine z15 ?_ | refine z10 ?_ | refine z8 ?_ | refine z6 rfl ?_ | refine z12 ?_ | refine z3 ?_ | refine z16 ?_ | refine z11 ?_ | refine z4 ?_)
      simp (maxSteps := 4000000) only [go_sem]
def addSpan (l : List Span) (i : Int) : List Span := match l.getLast? with
  | some s => if s.hi == i - 1 then l.dropLast ++ [⟨s.lo, i⟩] else l ++ [⟨i, i⟩]
  | none => [⟨i, i⟩]
def spansQ (q : Nat → Bool) : Nat → List Span
  | 0 => []
  | n + 1 => if q n then addSpan (spansQ q n) (n : Int) else spansQ q n
theorem z193 (q : Nat → Bool) : ∀ n, (spansQ q n).length ≤ n
  | 0 => Nat.le_refl _
  | n + 1 => by
    have ih := z193 q n
    rw [spansQ]
    split
    · unfold addSpan
      split
      · split
        · rename_i h _
          have : (spansQ q n) ≠ [] := fun hc => by rw [hc] at h; simp at h
          have := List.length_pos_iff.2 this
          simp
          omega
        · simp; omega
      · simp
    · omega
theorem last_split {α : Type} : ∀ (l : List α), l = [] ∨ ∃ a x, l = a ++ [x]
  | [] => .inl rfl
  | x :: l => .inr ⟨(x :: l).dropLast, (x :: l).getLast (by simp), (List.dropLast_concat_getLast (by simp)).symm⟩
theorem z290 (A : List Span) (s : Span) (i : Int) : addSpan (A ++ [s]) i = if s.hi == i - 1 then A ++ [⟨s.lo, i⟩] else A ++ [s] ++ [⟨i, i⟩] := by
  unfold addSpan
  simp
theorem zf149 (n : Nat) (g : Nat) (caps : List DV) (q : Nat → Bool) (hq : ∀ i, i < n → Fn Tryz.prog g (.i i :: caps) (.bool (q i))) (hn : n < 2 ^ 30) : FnS Tryz.prog 149 [.i n, .fn g caps] 34 2 (spanRows (spansQ q n)) := by
  refine z126 45 Tryz.call149 Tryz.func149 rfl (by decide) fun J => ?_
  simp (maxSteps := 4000000) only [go_sem, St.start, Tryz.ntmps149, Tryz.results149]
  repeat (first | refine z14 ?_ | refine z9 ?_ | refine z7 ?_ | (refine z5 fun K hK => ?_; simp (maxSteps := 4000000) only [go_sem]; refine hK _ ?_; clear hK K) | refine z13 ?_ | refine z15 ?_ | refine z10 ?_ | refine z8 ?_ | refine z6 rfl ?_ | refine z12 ?_ | refine z3 ?_ | refine z16 ?_ | refine z11 ?_ | refine z4 ?_)
  refine z22 (fun (i : Nat) => [(8, .d (.i i)), (4, .own 19), (5, .undef), (6, .undef), (20, .undef), (25, .undef)]) (fun i => [(19, some (.arr 34 2 (spanRows (spansQ q i))))]) (fun i => i ≤ n) (fun i => n - i) 0 ?_ (Nat.zero_le _) ?_
  · simp (maxSteps := 4000000) only [go_sem]
    refine z19 [19] ?_ ?_ rfl rfl <;> simp [lessT, lessM, lessB, AV.less]
    all_goals first | done | rfl
  · intro i hi
    simp (maxSteps := 4000000) only [go_sem]
    repeat (first | refine z14 ?_ | refine z9 ?_ | refine z7 ?_ | (refine z5 fun K hK => ?_; simp (maxSteps := 4000000) only [go_sem]; refine hK _ ?_; clear hK K) | refine z13 ?_ | refine z15 ?_ | refine z10 ?_ | refine z8 ?_ | refine z6 rfl ?_ | refine z12 ?_ | refine z3 ?_ | refine z16 ?_ | refine z11 ?_ | refine z4 ?_)
    refine z20 rfl (fun hb => ?_) (fun hb => ?_)
    · have hlt : i < n := by simpa using hb
      have hw : IntKind.i64.wrap ((i : Int) + 1) = ((i + 1 : Nat) : Int) := by rw [z23 (by omega)]; simp
      have hq1 := hq i hlt
      have hlen := z193 q i
      have e1 : spansQ q (i + 1) = if q i then addSpan (spansQ q i) (i : Int) else spansQ q i := rfl
      obtain ⟨L, hL⟩ : ∃ L, L = spansQ q i := ⟨_, rfl⟩
      rw [← hL] at e1 hlen ⊢
      have wi : IntKind.i64.wrap ((i : Int) - 1) = (i : Int) - 1 := z23 (by omega)
      have hn1 : L.length + 1 ≤ 549755813888 := by omega
      rcases last_split L with hLe | ⟨A, s, hLe⟩
      · subst hLe
        have e0 : (([] : List Span).length : Int) = 0 := rfl
        have wl : IntKind.i64.wrap (0 - 1) = -1 := z23 (by decide)
        repeat (first | refine z14 ?_ | refine z9 ?_ | refine z7 ?_ | (refine z5 fun K hK => ?_; simp (maxSteps := 4000000) only [go_sem, wl]; refine hK _ ?_; clear hK K) | refine z13 ?_ | refine z15 ?_ | refine z10 ?_ | refine z8 ?_ | refine z6 rfl ?_ | refine z12 ?_ | refine z3 ?_ | refine z16 ?_ | refine z11 ?_ | refine z4 ?_)
        refine z5 fun K hK => ?_
        simp (maxSteps := 4000000) only [go_sem]
        refine ⟨_, .lent (hf := hq1) (hd := z28 _ _ _ _ rfl) (hr := rfl), ?_⟩
        simp (maxSteps := 4000000) only [go_sem]
        refine hK _ ?_
        clear hK K
        cases qi : q i
        · rw [qi] at e1
          simp only [Bool.false_eq_true, if_false] at e1
          repeat (first | refine z18 rfl ?_ | refine z17 rfl ?_ | refine z14 ?_ | refine z9 ?_ | refine z7 ?_ | (refine z5 fun K hK => ?_; simp (maxSteps := 4000000) only [go_sem, hw]; refine hK _ ?_; clear hK K) | refine z13 ?_ | refine z15 ?_ | refine z10 ?_ | refine z8 ?_ | refine z6 rfl ?_ | refine z12 ?_ | refine z3 ?_ | refine z16 ?_ | refine z11 ?_ | refine z4 ?_)
          refine ⟨rfl, i + 1, ?_, hlt, by omega⟩
          rw [e1]
          refine z19 [] ?_ ?_ rfl rfl <;> simp [lessT, lessM, lessB, AV.less]
          all_goals first | done | rfl
        · rw [qi] at e1
          simp only [if_true] at e1
          have d0 : decide ((-1 : Int) ≥ 0) = false := by decide
          have e2 : addSpan [] (i : Int) = [⟨i, i⟩] := rfl
          rw [e2] at e1
          have e3 : spanRows [] = [] := rfl
          repeat (first | refine z18 rfl ?_ | refine z17 rfl ?_ | refine z14 ?_ | refine z9 ?_ | refine z7 ?_ | (refine z5 fun K hK => ?_; simp (maxSteps := 4000000) only [go_sem, d0, hw, hn1, e3, List.nil_append]; refine hK _ ?_; clear hK K) | refine z13 ?_ | refine z15 ?_ | refine z10 ?_ | refine z8 ?_ | refine z6 rfl ?_ | refine z12 ?_ | refine z3 ?_ | refine z16 ?_ | refine z11 ?_ | refine z4 ?_)
          refine ⟨rfl, i + 1, ?_, hlt, by omega⟩
          rw [e1]
          refine z19 [] ?_ ?_ rfl rfl <;> simp [lessT, lessM, lessB, AV.less]
          all_goals first | done | rfl
      · have hAl : L.length = A.length + 1 := by rw [hLe]; simp
        have wl : IntKind.i64.wrap ((L.length : Int) - 1) = (A.length : Int) := by rw [z23 (by omega)]; omega
        have g1 : (spanRows L)[A.length]? = some s.row := z249 (by rw [hLe]; simp)
        have hA1 : A.length < L.length := by omega
        have d0 : decide ((A.length : Int) ≥ 0) = true := by simp
        repeat (first | refine z14 ?_ | refine z9 ?_ | refine z7 ?_ | (refine z5 fun K hK => ?_; simp (maxSteps := 4000000) only [go_sem, wl]; refine hK _ ?_; clear hK K) | refine z13 ?_ | refine z15 ?_ | refine z10 ?_ | refine z8 ?_ | refine z6 rfl ?_ | refine z12 ?_ | refine z3 ?_ | refine z16 ?_ | refine z11 ?_ | refine z4 ?_)
        refine z5 fun K hK => ?_
        simp (maxSteps := 4000000) only [go_sem]
        refine ⟨_, .lent (hf := hq1) (hd := z28 _ _ _ _ rfl) (hr := rfl), ?_⟩
        simp (maxSteps := 4000000) only [go_sem]
        refine hK _ ?_
        clear hK K
        cases qi : q i
        · rw [qi] at e1
          simp only [Bool.false_eq_true, if_false] at e1
          repeat (first | refine z18 rfl ?_ | refine z17 rfl ?_ | refine z14 ?_ | refine z9 ?_ | refine z7 ?_ | (refine z5 fun K hK => ?_; simp (maxSteps := 4000000) only [go_sem, hw]; refine hK _ ?_; clear hK K) | refine z13 ?_ | refine z15 ?_ | refine z10 ?_ | refine z8 ?_ | refine z6 rfl ?_ | refine z12 ?_ | refine z3 ?_ | refine z16 ?_ | refine z11 ?_ | refine z4 ?_)
          refine ⟨rfl, i + 1, ?_, hlt, by omega⟩
          rw [e1]
          refine z19 [] ?_ ?_ rfl rfl <;> simp [lessT, lessM, lessB, AV.less]
          all_goals first | done | rfl
        · rw [qi] at e1
          simp only [if_true] at e1
          rw [hLe, z290] at e1
          cases q3 : (s.hi == (i : Int) - 1)
          · rw [q3] at e1
            simp only [Bool.false_eq_true, if_false] at e1
            rw [← hLe] at e1
            repeat (first | refine z18 rfl ?_ | refine z17 rfl ?_ | refine z14 ?_ | refine z9 ?_ | refine z7 ?_ | (refine z5 fun K hK => ?_; simp (maxSteps := 4000000) only [go_sem, d0, g1, hA1, Span.row, wi, q3, hw, hn1]; refine hK _ ?_; clear hK K) | refine z13 ?_ | refine z15 ?_ | refine z10 ?_ | refine z8 ?_ | refine z6 rfl ?_ | refine z12 ?_ | refine z3 ?_ | refine z16 ?_ | refine z11 ?_ | refine z4 ?_)
            refine ⟨rfl, i + 1, ?_, hlt, by omega⟩
            rw [e1, spanRows_push]
            refine z19 [] ?_ ?_ rfl rfl <;> simp [lessT, lessM, lessB, AV.less]
            all_goals first | done | rfl
          · rw [q3] at e1
            simp only [if_true] at e1
            have e4 : (spanRows L).set A.length [.i s.lo, .i (i : Int)] = spanRows (A ++ [⟨s.lo, i⟩]) := by rw [hLe]; simp [spanRows, Span.row]
            repeat (first | refine z18 rfl ?_ | refine z17 rfl ?_ | refine z14 ?_ | refine z9 ?_ | refine z7 ?_ | (refine z5 fun K hK => ?_; simp (maxSteps := 4000000) only [go_sem, d0, g1, hA1, Span.row, wi, q3, hw, hn1]; refine hK _ ?_; clear hK K) | refine z13 ?_ | refine z15 ?_ | refine z10 ?_ | refine z8 ?_ | refine z6 rfl ?_ | refine z12 ?_ | refine z3 ?_ | refine z16 ?_ | refine z11 ?_ | refine z4 ?_)
            refine ⟨rfl, i + 1, ?_, hlt, by omega⟩
            rw [e1, ← e4]
            refine z19 [] ?_ ?_ rfl rfl <;> simp [lessT, lessM, lessB, AV.less]
            all_goals first | done | rfl
    · have he : i = n := by (have : ¬ i < n := by simpa using hb); omega
      subst he
      repeat (first | refine z14 ?_ | refine z9 ?_ | refine z7 ?_ | (refine z5 fun K hK => ?_; simp (maxSteps := 4000000) only [go_sem]; refine hK _ ?_; clear hK K) | refine z13 ?_ | refine z15 ?_ | refine z10 ?_ | refine z8 ?_ | refine z6 rfl ?_ | refine z12 ?_ | refine z3 ?_ | refine z16 ?_ | refine z11 ?_ | refine z4 ?_)
      simp (maxSteps := 4000000) only [go_sem]
end Go.Ab
namespace Go.Ab
open Go.RowKit Go.Proofs
set_option maxHeartbeats 4000000
set_option maxRecDepth 20000
attribute [local irreducible] WalkL Walk
theorem z254 (m : List (Option Blk)) (x y : AV) (d e : DV) (caps : List DV) (h : reify m deep x = some d) (k : reify m deep y = some e) : allSome ((x :: y :: caps.map AV.d).map (reify m deep)) = some (d :: e :: caps) := by
  have := z28 m y e caps k
  rw [List.map_cons, h]
  simp only [allSome, this, Option.map_some]
def outV (N : List Int) (S : List (List Hour)) (H : Nat) : DV := .ptr [.sl (intRows N), .sl (scenRows S), .i H] 0
theorem zf174 (s : List Hour) (g : Nat) (caps : List DV) (b : Bool) (hq : Fn Tryz.prog g (.sl (hourRows s) :: caps) (.bool b)) : Fn Tryz.prog 174 [.sl (hourRows s), .ptr [.fn g caps] 0] (.bool (!b)) := by
  refine z21 8 Tryz.call174 Tryz.func174 rfl (by decide) fun J => ?_
  simp (maxSteps := 4000000) only [go_sem, St.start, Tryz.ntmps174, Tryz.results174]
  repeat (first | refine z14 ?_ | refine z9 ?_ | refine z7 ?_ | (refine z5 fun K hK => ?_; simp (maxSteps := 4000000) only [go_sem]; refine hK _ ?_; clear hK K) | refine z13 ?_ | refine z15 ?_ | refine z10 ?_ | refine z8 ?_ | refine z6 rfl ?_ | refine z12 ?_ | refine z3 ?_ | refine z16 ?_ | refine z11 ?_ | refine z4 ?_)
  refine z5 fun K hK => ?_
  simp (maxSteps := 4000000) only [go_sem]
  refine ⟨_, .lent (hf := hq) (hd := z28 _ _ _ _ rfl) (hr := rfl), ?_⟩
  simp (maxSteps := 4000000) only [go_sem]
  refine hK _ ?_
  clear hK K
  repeat (first | refine z14 ?_ | refine z9 ?_ | refine z7 ?_ | (refine z5 fun K hK => ?_; simp (maxSteps := 4000000) only [go_sem]; refine hK _ ?_; clear hK K) | refine z13 ?_ | refine z15 ?_ | refine z10 ?_ | refine z8 ?_ | refine z6 rfl ?_ | refine z12 ?_ | refine z3 ?_ | refine z16 ?_ | refine z11 ?_ | refine z4 ?_)
  simp (maxSteps := 4000000) only [go_sem]
theorem zf151 (xs : List (List Hour)) (g : Nat) (caps : List DV) (q : List Hour → Bool) (hq : ∀ s ∈ xs, Fn Tryz.prog g (.sl (hourRows s) :: caps) (.bool (q s))) (hl : xs.length < 2 ^ 62) : Fn Tryz.prog 151 [.sl (scenRows xs), .fn g caps] (.bool (xs.all q)) := by
  have h := zf154 xs 174 [.ptr [.fn g caps] 0] (fun s => !q s) (fun s hs => zf174 s g caps (q s) (hq s hs)) hl
  refine z21 9 Tryz.call151 Tryz.func151 rfl (by decide) fun J => ?_
  simp (maxSteps := 4000000) only [go_sem, St.start, Tryz.ntmps151, Tryz.results151]
  repeat (first | refine z14 ?_ | refine z9 ?_ | refine z7 ?_ | (refine z5 fun K hK => ?_; simp (maxSteps := 4000000) only [go_sem]; (repeat (first | (refine ⟨_, .lent (hf := h) (hd := rfl) (hr := rfl), ?_⟩; simp (maxSteps := 4000000) only [go_sem]) | (refine ⟨_, .given (hf := h) (hd := rfl) (ha := rfl), ?_⟩; simp (maxSteps := 4000000) only [go_sem]))); refine hK _ ?_; clear hK K) | refine z13 ?_ | refine z15 ?_ | refine z10 ?_ | refine z8 ?_ | refine z6 rfl ?_ | refine z12 ?_ | refine z3 ?_ | refine z16 ?_ | refine z11 ?_ | refine z4 ?_)
  simp (maxSteps := 4000000) only [go_sem, z132]
theorem zf152 (l : List Hour) (h : Int) (g : Nat) (caps : List DV) (b : Bool) (hq : Fn Tryz.prog g (.sl (hourRows l) :: .i h :: caps) (.bool b)) : Fn Tryz.prog 152 [.sl (hourRows l), .ptr [.fn g caps] 0, .ptr [.i h] 0] (.bool b) := by
  refine z21 9 Tryz.call152 Tryz.func152 rfl (by decide) fun J => ?_
  simp (maxSteps := 4000000) only [go_sem, St.start, Tryz.ntmps152, Tryz.results152]
  repeat (first | refine z14 ?_ | refine z9 ?_ | refine z7 ?_ | (refine z5 fun K hK => ?_; simp (maxSteps := 4000000) only [go_sem]; refine hK _ ?_; clear hK K) | refine z13 ?_ | refine z15 ?_ | refine z10 ?_ | refine z8 ?_ | refine z6 rfl ?_ | refine z12 ?_ | refine z3 ?_ | refine z16 ?_ | refine z11 ?_ | refine z4 ?_)
  refine z5 fun K hK => ?_
  simp (maxSteps := 4000000) only [go_sem]
  refine ⟨_, .lent (hf := hq) (hd := z254 _ _ _ _ _ _ rfl rfl) (hr := rfl), ?_⟩
  simp (maxSteps := 4000000) only [go_sem]
  refine hK _ ?_
  clear hK K
  repeat (first | refine z14 ?_ | refine z9 ?_ | refine z7 ?_ | (refine z5 fun K hK => ?_; simp (maxSteps := 4000000) only [go_sem]; refine hK _ ?_; clear hK K) | refine z13 ?_ | refine z15 ?_ | refine z10 ?_ | refine z8 ?_ | refine z6 rfl ?_ | refine z12 ?_ | refine z3 ?_ | refine z16 ?_ | refine z11 ?_ | refine z4 ?_)
  simp (maxSteps := 4000000) only [go_sem]
theorem zf155 (l : List Hour) (h : Int) (g : Nat) (caps : List DV) (b : Bool) (hq : Fn Tryz.prog g (.sl (hourRows l) :: .i h :: caps) (.bool b)) : Fn Tryz.prog 155 [.sl (hourRows l), .ptr [.fn g caps] 0, .ptr [.i h] 0] (.bool b) := by
  refine z21 9 Tryz.call155 Tryz.func155 rfl (by decide) fun J => ?_
  simp (maxSteps := 4000000) only [go_sem, St.start, Tryz.ntmps155, Tryz.results155]
  repeat (first | refine z14 ?_ | refine z9 ?_ | refine z7 ?_ | (refine z5 fun K hK => ?_; simp (maxSteps := 4000000) only [go_sem]; refine hK _ ?_; clear hK K) | refine z13 ?_ | refine z15 ?_ | refine z10 ?_ | refine z8 ?_ | refine z6 rfl ?_ | refine z12 ?_ | refine z3 ?_ | refine z16 ?_ | refine z11 ?_ | refine z4 ?_)
  refine z5 fun K hK => ?_
  simp (maxSteps := 4000000) only [go_sem]
  refine ⟨_, .lent (hf := hq) (hd := z254 _ _ _ _ _ _ rfl rfl) (hr := rfl), ?_⟩
  simp (maxSteps := 4000000) only [go_sem]
  refine hK _ ?_
  clear hK K
  repeat (first | refine z14 ?_ | refine z9 ?_ | refine z7 ?_ | (refine z5 fun K hK => ?_; simp (maxSteps := 4000000) only [go_sem]; refine hK _ ?_; clear hK K) | refine z13 ?_ | refine z15 ?_ | refine z10 ?_ | refine z8 ?_ | refine z6 rfl ?_ | refine z12 ?_ | refine z3 ?_ | refine z16 ?_ | refine z11 ?_ | refine z4 ?_)
  simp (maxSteps := 4000000) only [go_sem]
theorem zf150 (N : List Int) (S : List (List Hour)) (H : Nat) (h : Int) (g : Nat) (caps : List DV) (q : List Hour → Bool) (hq : ∀ l ∈ S, Fn Tryz.prog g (.sl (hourRows l) :: .i h :: caps) (.bool (q l))) (hS : S.length < 2 ^ 30) :
    Fn Tryz.prog 150 [.i h, .ptr [outV N S H] 0, .ptr [.fn g caps] 0] (.bool (S.all q)) := by
  have h79 := zf151 S 152 [.ptr [.fn g caps] 0, .ptr [.i h] 0] q (fun l hl => zf152 l h g caps (q l) (hq l hl)) (by omega)
  refine z21 11 Tryz.call150 Tryz.func150 rfl (by decide) fun J => ?_
  simp (maxSteps := 4000000) only [go_sem, St.start, Tryz.ntmps150, Tryz.results150, outV]
  repeat (first | refine z14 ?_ | refine z9 ?_ | refine z7 ?_ | (refine z5 fun K hK => ?_; simp (maxSteps := 4000000) only [go_sem]; (repeat (first | (refine ⟨_, .lent (hf := h79) (hd := rfl) (hr := rfl), ?_⟩; simp (maxSteps := 4000000) only [go_sem]) | (refine ⟨_, .given (hf := h79) (hd := rfl) (ha := rfl), ?_⟩; simp (maxSteps := 4000000) only [go_sem]))); refine hK _ ?_; clear hK K) | refine z13 ?_ | refine z15 ?_ | refine z10 ?_ | refine z8 ?_ | refine z6 rfl ?_ | refine z12 ?_ | refine z3 ?_ | refine z16 ?_ | refine z11 ?_ | refine z4 ?_)
  simp (maxSteps := 4000000) only [go_sem]
theorem zf153 (N : List Int) (S : List (List Hour)) (H : Nat) (h : Int) (g : Nat) (caps : List DV) (q : List Hour → Bool) (hq : ∀ l ∈ S, Fn Tryz.prog g (.sl (hourRows l) :: .i h :: caps) (.bool (q l))) (hS : S.length < 2 ^ 30) :
    Fn Tryz.prog 153 [.i h, .ptr [outV N S H] 0, .ptr [.fn g caps] 0] (.bool (S.any q)) := by
  have h82 := zf154 S 155 [.ptr [.fn g caps] 0, .ptr [.i h] 0] q (fun l hl => zf155 l h g caps (q l) (hq l hl)) (by omega)
  refine z21 11 Tryz.call153 Tryz.func153 rfl (by decide) fun J => ?_
  simp (maxSteps := 4000000) only [go_sem, St.start, Tryz.ntmps153, Tryz.results153, outV]
  repeat (first | refine z14 ?_ | refine z9 ?_ | refine z7 ?_ | (refine z5 fun K hK => ?_; simp (maxSteps := 4000000) only [go_sem]; (repeat (first | (refine ⟨_, .lent (hf := h82) (hd := rfl) (hr := rfl), ?_⟩; simp (maxSteps := 4000000) only [go_sem]) | (refine ⟨_, .given (hf := h82) (hd := rfl) (ha := rfl), ?_⟩; simp (maxSteps := 4000000) only [go_sem]))); refine hK _ ?_; clear hK K) | refine z13 ?_ | refine z15 ?_ | refine z10 ?_ | refine z8 ?_ | refine z6 rfl ?_ | refine z12 ?_ | refine z3 ?_ | refine z16 ?_ | refine z11 ?_ | refine z4 ?_)
  simp (maxSteps := 4000000) only [go_sem]
theorem zf113 (N : List Int) (S : List (List Hour)) (H : Nat) (g : Nat) (caps : List DV) (q : List Hour → Nat → Bool) (hq : ∀ l ∈ S, ∀ i, i < H → Fn Tryz.prog g (.sl (hourRows l) :: .i i :: caps) (.bool (q l i))) (hS : S.length < 2 ^ 30) (hH : H < 2 ^ 30) :
    FnS Tryz.prog 113 [outV N S H, .fn g caps] 34 2 (spanRows (spansQ (fun i => S.all fun l => q l i) H)) := by
  have h68 := zf149 H 150 [.ptr [outV N S H] 0, .ptr [.fn g caps] 0] (fun i => S.all fun l => q l i) (fun i hi => zf150 N S H i g caps (fun l => q l i) (fun l hl => hq l hl i hi) hS) hH
  rw [outV] at h68
  refine z126 11 Tryz.call113 Tryz.func113 rfl (by decide) fun J => ?_
  simp (maxSteps := 4000000) only [go_sem, St.start, Tryz.ntmps113, Tryz.results113, outV]
  repeat (first | refine z14 ?_ | refine z9 ?_ | refine z7 ?_ | (refine z5 fun K hK => ?_; simp (maxSteps := 4000000) only [go_sem]; refine hK _ ?_; clear hK K) | refine z13 ?_ | refine z15 ?_ | refine z10 ?_ | refine z8 ?_ | refine z6 rfl ?_ | refine z12 ?_ | refine z3 ?_ | refine z16 ?_ | refine z11 ?_ | refine z4 ?_)
  refine z5 fun K hK => ?_
  simp (maxSteps := 4000000) only [go_sem]
  refine ⟨_, .lentS (hdst := rfl) (hf := h68) (hd := rfl) (hr := by first | exact z51 _ | exact z69 _ | exact z58 _ | exact z81 _ | exact z68 _ | exact z70 _) (hfr := rfl), ?_⟩
  simp (maxSteps := 4000000) only [go_sem]
  refine hK _ ?_
  clear hK K
  repeat (first | refine z14 ?_ | refine z9 ?_ | refine z7 ?_ | (refine z5 fun K hK => ?_; simp (maxSteps := 4000000) only [go_sem]; refine hK _ ?_; clear hK K) | refine z13 ?_ | refine z15 ?_ | refine z10 ?_ | refine z8 ?_ | refine z6 rfl ?_ | refine z12 ?_ | refine z3 ?_ | refine z16 ?_ | refine z11 ?_ | refine z4 ?_)
  simp (maxSteps := 4000000) only [go_sem]
theorem zf115 (N : List Int) (S : List (List Hour)) (H : Nat) (g : Nat) (caps : List DV) (q : List Hour → Nat → Bool) (hq : ∀ l ∈ S, ∀ i, i < H → Fn Tryz.prog g (.sl (hourRows l) :: .i i :: caps) (.bool (q l i))) (hS : S.length < 2 ^ 30) (hH : H < 2 ^ 30) :
    FnS Tryz.prog 115 [outV N S H, .fn g caps] 34 2 (spanRows (spansQ (fun i => S.any fun l => q l i) H)) := by
  have h68 := zf149 H 153 [.ptr [outV N S H] 0, .ptr [.fn g caps] 0] (fun i => S.any fun l => q l i) (fun i hi => zf153 N S H i g caps (fun l => q l i) (fun l hl => hq l hl i hi) hS) hH
  rw [outV] at h68
  refine z126 11 Tryz.call115 Tryz.func115 rfl (by decide) fun J => ?_
  simp (maxSteps := 4000000) only [go_sem, St.start, Tryz.ntmps115, Tryz.results115, outV]
  repeat (first | refine z14 ?_ | refine z9 ?_ | refine z7 ?_ | (refine z5 fun K hK => ?_; simp (maxSteps := 4000000) only [go_sem]; refine hK _ ?_; clear hK K) | refine z13 ?_ | refine z15 ?_ | refine z10 ?_ | refine z8 ?_ | refine z6 rfl ?_ | refine z12 ?_ | refine z3 ?_ | refine z16 ?_ | refine z11 ?_ | refine z4 ?_)
  refine z5 fun K hK => ?_
  simp (maxSteps := 4000000) only [go_sem]
  refine ⟨_, .lentS (hdst := rfl) (hf := h68) (hd := rfl) (hr := by first | exact z51 _ | exact z69 _ | exact z58 _ | exact z81 _ | exact z68 _ | exact z70 _) (hfr := rfl), ?_⟩
  simp (maxSteps := 4000000) only [go_sem]
  refine hK _ ?_
  clear hK K
  repeat (first | refine z14 ?_ | refine z9 ?_ | refine z7 ?_ | (refine z5 fun K hK => ?_; simp (maxSteps := 4000000) only [go_sem]; refine hK _ ?_; clear hK K) | refine z13 ?_ | refine z15 ?_ | refine z10 ?_ | refine z8 ?_ | refine z6 rfl ?_ | refine z12 ?_ | refine z3 ?_ | refine z16 ?_ | refine z11 ?_ | refine z4 ?_)
  simp (maxSteps := 4000000) only [go_sem]
theorem z152 {F : List (List Hour)} {seen : List Sight} {err : Int} {told : Bool} (h : lookF F seen err told = 0) : ForeGood F ∧ sightsB (hd0 F).length seen = true ∧ possL F seen ≠ [] ∧ err = 0 ∧ told = true := by
  unfold lookF at h
  cases hb : badF F
  · cases hq : sightsB (hd0 F).length seen
    · rw [hb, hq] at h; simp at h
    · rw [hb, hq] at h
      simp only [Bool.false_eq_true, if_false, if_true] at h
      by_cases he : err = 0
      · rw [if_pos he] at h
        cases told
        · simp at h
        · simp only [if_true] at h
          refine ⟨z155.1 hb, rfl, ?_, he, rfl⟩
          intro hc
          rw [hc] at h
          simp at h
      · rw [if_neg he] at h
        exact absurd h he
  · rw [hb] at h; simp at h
theorem scens_all {F : List (List Hour)} {seen : List Sight} (hg : ForeGood F) : ∀ s ∈ scensOf (possL F seen), s.length = (hd0 F).length := fun s hs => by
  obtain ⟨x, hx, rfl⟩ := List.mem_map.1 hs
  obtain ⟨k, hk⟩ := List.getElem?_of_mem hx
  obtain ⟨l0, _, hl0, e1, _⟩ := poss_get F 0 k x.1 x.2 hk
  rw [e1, z83, hg.len l0 (List.mem_of_getElem? hl0)]
theorem z252 {F : List (List Hour)} {seen : List Sight} : (scensOf (possL F seen)).length ≤ F.length := by rw [scensOf, List.length_map]; exact z82 _ _ _
theorem lookV_out (F : List (List Hour)) (seen : List Sight) : lookV F seen = outV (numsOf (possL F seen)) (scensOf (possL F seen)) (hd0 F).length := rfl
def keepsF (F : List (List Hour)) (seen : List Sight) (l : Limits) : List Span × List Span × Int :=
  if lookF F seen (limE l) true = 0 then (spansQ (fun i => (scensOf (possL F seen)).all fun s => alwaysB l (hourAt s (i : Int))) (hd0 F).length, spansQ (fun i => (scensOf (possL F seen)).any fun s => everB l (hourAt s (i : Int))) (hd0 F).length, 0) else ([], [], lookF F seen (limE l) true)
theorem zf71 (F : List (List Hour)) (seen : List Sight) (l : Limits) (hs : ForeSmall F) (hsl : seen.length < 2 ^ 30) :
    Fn Tryz.prog 71 [.agg [.sl (scenRows F)], .sl (sightRows seen), .agg l.row] (.tup [.sl (spanRows (keepsF F seen l).1), .sl (spanRows (keepsF F seen l).2.1), .i (keepsF F seen l).2.2]) := by
  have h40 := zf112 l
  have h39 := zf109 F seen (limE l) true hs hsl
  obtain ⟨le, hle⟩ : ∃ e, e = limE l := ⟨_, rfl⟩
  obtain ⟨e, he⟩ : ∃ e, e = lookF F seen (limE l) true := ⟨_, rfl⟩
  unfold keepsF
  rw [← he] at h39 ⊢
  rw [← hle] at h39 h40
  by_cases h0 : e = 0
  · rw [if_pos h0, lookV_out] at h39
    rw [if_pos h0]
    have hz : (e != 0) = false := by simp [h0]
    rw [h0] at he
    obtain ⟨hg, hsi, hne, _, _⟩ := z152 he.symm
    have hall := scens_all (seen := seen) hg
    have hSl := z252 (F := F) (seen := seen)
    have hH := hg.hours
    have hF := hg.scen
    obtain ⟨N, hN⟩ : ∃ N, N = numsOf (possL F seen) := ⟨_, rfl⟩
    obtain ⟨S, hS⟩ : ∃ S, S = scensOf (possL F seen) := ⟨_, rfl⟩
    obtain ⟨H, hHe⟩ : ∃ H, H = (hd0 F).length := ⟨_, rfl⟩
    rw [← hN, ← hS, ← hHe] at h39
    rw [← hS] at hall hSl
    rw [← hHe] at hall hH
    have h41 := zf113 N S H 114 [.ptr l.row 0] (fun s i => alwaysB l (hourAt s (i : Int))) (fun s hs i hi => zf114 l s i _ (z66 (i := (i : Int)) ⟨by omega, by rw [hall s hs]; omega⟩)) (by omega) (by omega)
    have h44 := zf115 N S H 116 [.ptr l.row 0] (fun s i => everB l (hourAt s (i : Int))) (fun s hs i hi => zf116 l s i _ (z66 (i := (i : Int)) ⟨by omega, by rw [hall s hs]; omega⟩)) (by omega) (by omega)
    rw [← hS, ← hHe]
    obtain ⟨A, hA⟩ : ∃ A, A = spansQ (fun i => S.all fun s => alwaysB l (hourAt s (i : Int))) H := ⟨_, rfl⟩
    obtain ⟨B, hB⟩ : ∃ B, B = spansQ (fun i => S.any fun s => everB l (hourAt s (i : Int))) H := ⟨_, rfl⟩
    rw [← hA] at h41
    rw [← hB] at h44
    rw [← hA, ← hB]
    rw [outV] at h39 h41 h44
    rw [Limits.row] at h40 h41 h44
    refine z21 31 Tryz.call71 Tryz.func71 rfl (by decide) fun J => ?_
    simp (maxSteps := 4000000) only [go_sem, St.start, Tryz.ntmps71, Tryz.results71, Limits.row]
    repeat (first | refine z14 ?_ | refine z9 ?_ | refine z7 ?_ | (refine z5 fun K hK => ?_; simp (maxSteps := 4000000) only [go_sem]; refine hK _ ?_; clear hK K) | refine z13 ?_ | refine z15 ?_ | refine z10 ?_ | refine z8 ?_ | refine z6 rfl ?_ | refine z12 ?_ | refine z3 ?_ | refine z16 ?_ | refine z11 ?_ | refine z4 ?_)
    refine z24 (by kernel_rfl) (by kernel_rfl) fun K hK => ?_
    simp (maxSteps := 4000000) only [go_sem]
    refine ⟨_, .fn (hf := h40) (hd := rfl) (hr := .inr rfl), ?_⟩
    simp (maxSteps := 4000000) only [go_sem]
    refine ⟨_, .fn (hf := h39) (hd := rfl) (hr := .inr rfl), ?_⟩
    simp (maxSteps := 4000000) only [go_sem]
    refine ⟨by kernel_rfl, hK _ ?_⟩
    clear hK K
    repeat (first | refine z18 rfl ?_ | refine z17 rfl ?_ | refine z14 ?_ | refine z9 ?_ | refine z7 ?_ | (refine z5 fun K hK => ?_; simp (maxSteps := 4000000) only [go_sem, hz]; refine hK _ ?_; clear hK K) | refine z13 ?_ | refine z15 ?_ | refine z10 ?_ | refine z8 ?_ | refine z6 rfl ?_ | refine z12 ?_ | refine z3 ?_ | refine z16 ?_ | refine z11 ?_ | refine z4 ?_)
    refine z5 fun K hK => ?_
    simp (maxSteps := 4000000) only [go_sem]
    refine ⟨_, .lentS (hdst := rfl) (hf := h41) (hd := rfl) (hr := by first | exact z51 _ | exact z69 _ | exact z58 _ | exact z81 _ | exact z68 _ | exact z70 _) (hfr := rfl), ?_⟩
    simp (maxSteps := 4000000) only [go_sem]
    refine ⟨_, .lentS (hdst := rfl) (hf := h44) (hd := rfl) (hr := by first | exact z51 _ | exact z69 _ | exact z58 _ | exact z81 _ | exact z68 _ | exact z70 _) (hfr := rfl), ?_⟩
    simp (maxSteps := 4000000) only [go_sem]
    refine hK _ ?_
    clear hK K
    repeat (first | refine z14 ?_ | refine z9 ?_ | refine z7 ?_ | (refine z5 fun K hK => ?_; simp (maxSteps := 4000000) only [go_sem]; refine hK _ ?_; clear hK K) | refine z13 ?_ | refine z15 ?_ | refine z10 ?_ | refine z8 ?_ | refine z6 rfl ?_ | refine z12 ?_ | refine z3 ?_ | refine z16 ?_ | refine z11 ?_ | refine z4 ?_)
    simp (maxSteps := 4000000) only [go_sem]
  · rw [if_neg h0] at h39
    rw [if_neg h0]
    have hz : (e != 0) = true := by simpa using h0
    rw [Limits.row] at h40
    have e3 : spanRows [] = [] := rfl
    refine z21 31 Tryz.call71 Tryz.func71 rfl (by decide) fun J => ?_
    simp (maxSteps := 4000000) only [go_sem, St.start, Tryz.ntmps71, Tryz.results71, Limits.row]
    repeat (first | refine z14 ?_ | refine z9 ?_ | refine z7 ?_ | (refine z5 fun K hK => ?_; simp (maxSteps := 4000000) only [go_sem]; refine hK _ ?_; clear hK K) | refine z13 ?_ | refine z15 ?_ | refine z10 ?_ | refine z8 ?_ | refine z6 rfl ?_ | refine z12 ?_ | refine z3 ?_ | refine z16 ?_ | refine z11 ?_ | refine z4 ?_)
    refine z24 (by kernel_rfl) (by kernel_rfl) fun K hK => ?_
    simp (maxSteps := 4000000) only [go_sem]
    refine ⟨_, .fn (hf := h40) (hd := rfl) (hr := .inr rfl), ?_⟩
    simp (maxSteps := 4000000) only [go_sem]
    refine ⟨_, .fn (hf := h39) (hd := rfl) (hr := .inr rfl), ?_⟩
    simp (maxSteps := 4000000) only [go_sem]
    refine ⟨by kernel_rfl, hK _ ?_⟩
    clear hK K
    repeat (first | refine z18 rfl ?_ | refine z17 rfl ?_ | refine z14 ?_ | refine z9 ?_ | refine z7 ?_ | (refine z5 fun K hK => ?_; simp (maxSteps := 4000000) only [go_sem, hz]; refine hK _ ?_; clear hK K) | refine z13 ?_ | refine z15 ?_ | refine z10 ?_ | refine z8 ?_ | refine z6 rfl ?_ | refine z12 ?_ | refine z3 ?_ | refine z16 ?_ | refine z11 ?_ | refine z4 ?_)
    simp (maxSteps := 4000000) only [go_sem, e3]
    try rfl
end Go.Ab
namespace Go.Ab
open Go.RowKit Go.Proofs
set_option maxHeartbeats 8000000
set_option maxRecDepth 20000
attribute [local irreducible] WalkL Walk
theorem zf73 (F : List (List Hour)) (seen : List Sight) (l : Limits) (n : Int) (hs : ForeSmall F) (hsl : seen.length < 2 ^ 30) :
    Fn Tryz.prog 73 [.agg [.sl (scenRows F)], .sl (sightRows seen), .agg l.row, .i n]
      (.tup [if lookF F seen (limE l) (withinB n 1 48) = 0 then lookV F seen else .nilptr, .i (lookF F seen (limE l) (withinB n 1 48))]) := by
  have h40 := zf112 l
  have h52 := z291 n 1 48
  have h39 := zf109 F seen (limE l) (withinB n 1 48) hs hsl
  obtain ⟨le, hle⟩ : ∃ e, e = limE l := ⟨_, rfl⟩
  obtain ⟨w, hw⟩ : ∃ e, e = withinB n 1 48 := ⟨_, rfl⟩
  rw [← hle, ← hw] at h39 ⊢
  rw [← hle] at h40
  rw [← hw] at h52
  obtain ⟨e, he⟩ : ∃ e, e = lookF F seen le w := ⟨_, rfl⟩
  rw [← he] at h39 ⊢
  rw [Limits.row] at h40
  by_cases h0 : e = 0
  · rw [if_pos h0, lookV] at h39
    rw [if_pos h0, lookV]
    refine z21 20 Tryz.call73 Tryz.func73 rfl (by decide) fun J => ?_
    simp (maxSteps := 4000000) only [go_sem, St.start, Tryz.ntmps73, Tryz.results73, Limits.row]
    repeat (first | refine z14 ?_ | refine z9 ?_ | refine z7 ?_ | (refine z5 fun K hK => ?_; simp (maxSteps := 4000000) only [go_sem]; refine hK _ ?_; clear hK K) | refine z13 ?_ | refine z15 ?_ | refine z10 ?_ | refine z8 ?_ | refine z6 rfl ?_ | refine z12 ?_ | refine z3 ?_ | refine z16 ?_ | refine z11 ?_ | refine z4 ?_)
    refine z24 (by kernel_rfl) (by kernel_rfl) fun K hK => ?_
    simp (maxSteps := 4000000) only [go_sem]
    refine ⟨_, .fn (hf := h40) (hd := rfl) (hr := .inr rfl), ?_⟩
    simp (maxSteps := 4000000) only [go_sem]
    refine ⟨_, .fn (hf := h52) (hd := rfl) (hr := .inr rfl), ?_⟩
    simp (maxSteps := 4000000) only [go_sem]
    refine ⟨_, .fn (hf := h39) (hd := rfl) (hr := .inr rfl), ?_⟩
    simp (maxSteps := 4000000) only [go_sem]
    refine ⟨by kernel_rfl, hK _ ?_⟩
    clear hK K
    repeat (first | refine z14 ?_ | refine z9 ?_ | refine z7 ?_ | (refine z5 fun K hK => ?_; simp (maxSteps := 4000000) only [go_sem]; refine hK _ ?_; clear hK K) | refine z13 ?_ | refine z15 ?_ | refine z10 ?_ | refine z8 ?_ | refine z6 rfl ?_ | refine z12 ?_ | refine z3 ?_ | refine z16 ?_ | refine z11 ?_ | refine z4 ?_)
    simp (maxSteps := 4000000) only [go_sem]
  · rw [if_neg h0] at h39
    rw [if_neg h0]
    refine z21 20 Tryz.call73 Tryz.func73 rfl (by decide) fun J => ?_
    simp (maxSteps := 4000000) only [go_sem, St.start, Tryz.ntmps73, Tryz.results73, Limits.row]
    repeat (first | refine z14 ?_ | refine z9 ?_ | refine z7 ?_ | (refine z5 fun K hK => ?_; simp (maxSteps := 4000000) only [go_sem]; refine hK _ ?_; clear hK K) | refine z13 ?_ | refine z15 ?_ | refine z10 ?_ | refine z8 ?_ | refine z6 rfl ?_ | refine z12 ?_ | refine z3 ?_ | refine z16 ?_ | refine z11 ?_ | refine z4 ?_)
    refine z24 (by kernel_rfl) (by kernel_rfl) fun K hK => ?_
    simp (maxSteps := 4000000) only [go_sem]
    refine ⟨_, .fn (hf := h40) (hd := rfl) (hr := .inr rfl), ?_⟩
    simp (maxSteps := 4000000) only [go_sem]
    refine ⟨_, .fn (hf := h52) (hd := rfl) (hr := .inr rfl), ?_⟩
    simp (maxSteps := 4000000) only [go_sem]
    refine ⟨_, .fn (hf := h39) (hd := rfl) (hr := .inr rfl), ?_⟩
    simp (maxSteps := 4000000) only [go_sem]
    refine ⟨by kernel_rfl, hK _ ?_⟩
    clear hK K
    repeat (first | refine z14 ?_ | refine z9 ?_ | refine z7 ?_ | (refine z5 fun K hK => ?_; simp (maxSteps := 4000000) only [go_sem]; refine hK _ ?_; clear hK K) | refine z13 ?_ | refine z15 ?_ | refine z10 ?_ | refine z8 ?_ | refine z6 rfl ?_ | refine z12 ?_ | refine z3 ?_ | refine z16 ?_ | refine z11 ?_ | refine z4 ?_)
    simp (maxSteps := 4000000) only [go_sem]
def winFirst (l : Limits) (n : Int) (S : List (List Hour)) (H : Int) : Int := S.foldl (fun f s => if decide (beginsF (s.map (everB l)) n ≥ 0) then min f (beginsF (s.map (everB l)) n) else f) H
def winLast (l : Limits) (n : Int) (S : List (List Hour)) : Int := S.foldl (fun a s => max a (beginsF (s.map (alwaysB l)) n)) (-1)
def winNever (l : Limits) (n : Int) (S : List (List Hour)) : Bool := S.any fun s => decide (beginsF (s.map (alwaysB l)) n < 0)
def windowF (F : List (List Hour)) (seen : List Sight) (l : Limits) (n : Int) : Int × Int × Int :=
  if lookF F seen (limE l) (withinB n 1 48) = 0 then
    (if winFirst l n (scensOf (possL F seen)) (hd0 F).length = (hd0 F).length then -1 else winFirst l n (scensOf (possL F seen)) (hd0 F).length, if winNever l n (scensOf (possL F seen)) then -1 else winLast l n (scensOf (possL F seen)), 0)
  else (0, 0, lookF F seen (limE l) (withinB n 1 48))
theorem zf40 (F : List (List Hour)) (seen : List Sight) (l : Limits) (n : Int) (hs : ForeSmall F) (hsl : seen.length < 2 ^ 30) :
    Fn Tryz.prog 40 [.agg [.sl (scenRows F)], .sl (sightRows seen), .agg l.row, .i n] (.tup [.i (windowF F seen l n).1, .i (windowF F seen l n).2.1, .i (windowF F seen l n).2.2]) := by
  have h47 := zf73 F seen l n hs hsl
  obtain ⟨e, he⟩ : ∃ e, e = lookF F seen (limE l) (withinB n 1 48) := ⟨_, rfl⟩
  unfold windowF
  rw [← he] at h47 ⊢
  by_cases h0 : e = 0
  · rw [if_pos h0, lookV] at h47
    rw [if_pos h0]
    have hz : (e != 0) = false := by simp [h0]
    rw [h0] at he
    obtain ⟨hg, hsi, hne, _, hn⟩ := z152 he.symm
    have hn := z27.1 hn
    have hall := scens_all (seen := seen) hg
    have hSl := z252 (F := F) (seen := seen)
    have hH := hg.hours
    have hF := hg.scen
    obtain ⟨N, hN⟩ : ∃ N, N = numsOf (possL F seen) := ⟨_, rfl⟩
    obtain ⟨S, hS⟩ : ∃ S, S = scensOf (possL F seen) := ⟨_, rfl⟩
    obtain ⟨H, hHe⟩ : ∃ H, H = (hd0 F).length := ⟨_, rfl⟩
    rw [← hN, ← hS, ← hHe] at h47
    rw [← hS, ← hHe]
    rw [← hS] at hall hSl
    rw [← hHe] at hall hH
    rw [Limits.row] at h47
    obtain ⟨A, hA⟩ : ∃ A, A = winFirst l n S H := ⟨_, rfl⟩
    obtain ⟨B, hB⟩ : ∃ B, B = winLast l n S := ⟨_, rfl⟩
    obtain ⟨C, hC⟩ : ∃ C, C = winNever l n S := ⟨_, rfl⟩
    rw [← hA, ← hB, ← hC]
    refine z21 79 Tryz.call40 Tryz.func40 rfl (by decide) fun J => ?_
    simp (maxSteps := 4000000) only [go_sem, St.start, Tryz.ntmps40, Tryz.results40, Limits.row]
    repeat (first | refine z18 rfl ?_ | refine z17 rfl ?_ | refine z14 ?_ | refine z9 ?_ | refine z7 ?_ | (refine z5 fun K hK => ?_; simp (maxSteps := 4000000) only [go_sem, hz]; (repeat (first | (refine ⟨_, .lent (hf := h47) (hd := rfl) (hr := rfl), ?_⟩; simp (maxSteps := 4000000) only [go_sem, hz]) | (refine ⟨_, .given (hf := h47) (hd := rfl) (ha := rfl), ?_⟩; simp (maxSteps := 4000000) only [go_sem, hz]))); refine hK _ ?_; clear hK K) | refine z13 ?_ | refine z15 ?_ | refine z10 ?_ | refine z8 ?_ | refine z6 rfl ?_ | refine z12 ?_ | refine z3 ?_ | refine z16 ?_ | refine z11 ?_ | refine z4 ?_)
    refine z22 (fun (i : Nat) => [(40, .d (.i i)), (8, .d (.i (winFirst l n (S.take i) H))), (9, .d (.i (winLast l n (S.take i)))), (13, .d (.bool (winNever l n (S.take i))))]) (fun _ => []) (fun i => i ≤ S.length) (fun i => S.length - i) 0 ?_ (Nat.zero_le _) ?_
    · simp (maxSteps := 4000000) only [go_sem]
      refine z19 [] ?_ ?_ rfl rfl <;> simp [lessT, lessM, lessB, AV.less]
      all_goals first | done | rfl | exact ⟨rfl, rfl⟩ | exact ⟨rfl, rfl, rfl⟩
    · intro i hi
      obtain ⟨a, ha⟩ : ∃ a, a = winFirst l n (S.take i) H := ⟨_, rfl⟩
      obtain ⟨b, hb0⟩ : ∃ b, b = winLast l n (S.take i) := ⟨_, rfl⟩
      obtain ⟨c, hc0⟩ : ∃ c, c = winNever l n (S.take i) := ⟨_, rfl⟩
      rw [← ha, ← hb0, ← hc0]
      simp (maxSteps := 4000000) only [go_sem]
      repeat (first | refine z14 ?_ | refine z9 ?_ | refine z7 ?_ | (refine z5 fun K hK => ?_; simp (maxSteps := 4000000) only [go_sem]; refine hK _ ?_; clear hK K) | refine z13 ?_ | refine z15 ?_ | refine z10 ?_ | refine z8 ?_ | refine z6 rfl ?_ | refine z12 ?_ | refine z3 ?_ | refine z16 ?_ | refine z11 ?_ | refine z4 ?_)
      refine z20 rfl (fun hb => ?_) (fun hb => ?_)
      · have hlt : i < S.length := by simpa using hb
        have hw : IntKind.i64.wrap ((i : Int) + 1) = ((i + 1 : Nat) : Int) := by rw [z23 (by omega)]; simp
        obtain ⟨s, hx⟩ : ∃ s, S[i]? = some s := ⟨_, List.getElem?_eq_getElem hlt⟩
        have g1 := z35 hx
        have hsH := hall s (List.mem_of_getElem? hx)
        have c1 := zf75 s 76 (.agg l.row) (everB l) (fun h _ => zf76 l h) (by omega)
        have c2 := zf75 s 77 (.agg l.row) (alwaysB l) (fun h _ => zf77 l h) (by omega)
        have c3 := zf74 (s.map (everB l)) n ⟨by omega, by omega⟩ (by simp; omega)
        have c4 := zf74 (s.map (alwaysB l)) n ⟨by omega, by omega⟩ (by simp; omega)
        have n1 : winFirst l n (S.take (i + 1)) H = if decide (beginsF (s.map (everB l)) n ≥ 0) then min a (beginsF (s.map (everB l)) n) else a := by rw [ha]; exact z41 _ _ _ _ _ hx
        have n2 : winLast l n (S.take (i + 1)) = max b (beginsF (s.map (alwaysB l)) n) := by rw [hb0]; exact z41 _ _ _ _ _ hx
        have n3 : winNever l n (S.take (i + 1)) = (c || decide (beginsF (s.map (alwaysB l)) n < 0)) := by
          rw [hc0]; unfold winNever; rw [List.take_add_one, hx]; simp
        obtain ⟨x, hx1⟩ : ∃ x, x = beginsF (s.map (everB l)) n := ⟨_, rfl⟩
        obtain ⟨y, hy1⟩ : ∃ y, y = beginsF (s.map (alwaysB l)) n := ⟨_, rfl⟩
        rw [← hx1] at c3 n1
        rw [← hy1] at c4 n2 n3
        rw [Limits.row] at c1 c2
        cases qx : decide (x ≥ 0) <;> cases c
        all_goals
          rw [qx] at n1
          simp only [Bool.false_eq_true, if_false, if_true, Bool.false_or, Bool.true_or] at n1 n3
          repeat (first | refine z18 rfl ?_ | refine z17 rfl ?_ | refine z14 ?_ | refine z9 ?_ | refine z7 ?_ | (refine z5 fun K hK => ?_; simp (maxSteps := 4000000) only [go_sem, g1, qx, hw]; (repeat (first | (refine ⟨_, .lent (hf := c1) (hd := rfl) (hr := rfl), ?_⟩; simp (maxSteps := 4000000) only [go_sem, g1, qx, hw]) | (refine ⟨_, .lent (hf := c3) (hd := rfl) (hr := rfl), ?_⟩; simp (maxSteps := 4000000) only [go_sem, g1, qx, hw]) | (refine ⟨_, .lent (hf := c2) (hd := rfl) (hr := rfl), ?_⟩; simp (maxSteps := 4000000) only [go_sem, g1, qx, hw]) | (refine ⟨_, .lent (hf := c4) (hd := rfl) (hr := rfl), ?_⟩; simp (maxSteps := 4000000) only [go_sem, g1, qx, hw]) | (refine ⟨_, .given (hf := c1) (hd := rfl) (ha := rfl), ?_⟩; simp (maxSteps := 4000000) only [go_sem, g1, qx, hw]) | (refine ⟨_, .given (hf := c3) (hd := rfl) (ha := rfl), ?_⟩; simp (maxSteps := 4000000) only [go_sem, g1, qx, hw]) | (refine ⟨_, .given (hf := c2) (hd := rfl) (ha := rfl), ?_⟩; simp (maxSteps := 4000000) only [go_sem, g1, qx, hw]) | (refine ⟨_, .given (hf := c4) (hd := rfl) (ha := rfl), ?_⟩; simp (maxSteps := 4000000) only [go_sem, g1, qx, hw]))); refine hK _ ?_; clear hK K) | refine z13 ?_ | refine z15 ?_ | refine z10 ?_ | refine z8 ?_ | refine z6 rfl ?_ | refine z12 ?_ | refine z3 ?_ | refine z16 ?_ | refine z11 ?_ | refine z4 ?_)
          refine ⟨rfl, i + 1, ?_, hlt, by omega⟩
          rw [n1, n2, n3]
          refine z19 [] ?_ ?_ rfl rfl <;> simp [lessT, lessM, lessB, AV.less]
          all_goals first | done | rfl | exact ⟨rfl, rfl⟩ | exact ⟨rfl, rfl, rfl⟩
      · have he : i = S.length := by (have : ¬ i < S.length := by simpa using hb); omega
        subst he
        rw [List.take_length, ← hA] at ha
        rw [List.take_length, ← hB] at hb0
        rw [List.take_length, ← hC] at hc0
        subst ha hb0 hc0
        cases qa : (a == (H : Int)) <;> cases c
        all_goals
          have qa' : (a = (H : Int)) = ((a == (H : Int)) = true) := by simp
          repeat (first | refine z18 rfl ?_ | refine z17 rfl ?_ | refine z14 ?_ | refine z9 ?_ | refine z7 ?_ | (refine z5 fun K hK => ?_; simp (maxSteps := 4000000) only [go_sem, qa]; refine hK _ ?_; clear hK K) | refine z13 ?_ | refine z15 ?_ | refine z10 ?_ | refine z8 ?_ | refine z6 rfl ?_ | refine z12 ?_ | refine z3 ?_ | refine z16 ?_ | refine z11 ?_ | refine z4 ?_)
          simp (maxSteps := 4000000) only [go_sem, qa', qa, h0, Bool.false_eq_true, if_false, if_true]
  · rw [if_neg h0] at h47
    rw [if_neg h0]
    have hz : (e != 0) = true := by simpa using h0
    rw [Limits.row] at h47
    refine z21 79 Tryz.call40 Tryz.func40 rfl (by decide) fun J => ?_
    simp (maxSteps := 4000000) only [go_sem, St.start, Tryz.ntmps40, Tryz.results40, Limits.row]
    repeat (first | refine z18 rfl ?_ | refine z17 rfl ?_ | refine z14 ?_ | refine z9 ?_ | refine z7 ?_ | (refine z5 fun K hK => ?_; simp (maxSteps := 4000000) only [go_sem, hz]; (repeat (first | (refine ⟨_, .lent (hf := h47) (hd := rfl) (hr := rfl), ?_⟩; simp (maxSteps := 4000000) only [go_sem, hz]) | (refine ⟨_, .given (hf := h47) (hd := rfl) (ha := rfl), ?_⟩; simp (maxSteps := 4000000) only [go_sem, hz]))); refine hK _ ?_; clear hK K) | refine z13 ?_ | refine z15 ?_ | refine z10 ?_ | refine z8 ?_ | refine z6 rfl ?_ | refine z12 ?_ | refine z3 ?_ | refine z16 ?_ | refine z11 ?_ | refine z4 ?_)
    simp (maxSteps := 4000000) only [go_sem]
    try rfl
def gapAt (b : List Bool) (n : Int) (k : Nat) : Int := if decide (beginsF (b.drop k) n ≥ 0) then beginsF (b.drop k) n + n - 1 else (b.length : Int) - k
def gapTo (b : List Bool) (n : Int) : Nat → Int → Int
  | 0, g => g
  | k + 1, g => max (gapTo b n k g) (gapAt b n k)
def gapS (l : Limits) (n : Int) (S : List (List Hour)) : Int := S.foldl (fun g s => gapTo (s.map (alwaysB l)) n s.length g) 0
def gapF (F : List (List Hour)) (seen : List Sight) (l : Limits) (n : Int) : Int × Int :=
  if lookF F seen (limE l) (withinB n 1 48) = 0 then (gapS l n (scensOf (possL F seen)), 0) else (0, lookF F seen (limE l) (withinB n 1 48))
end Go.Ab
namespace Go.Ab
open Go.RowKit Go.Proofs
set_option maxHeartbeats 8000000
set_option maxRecDepth 20000
attribute [local irreducible] WalkL Walk
def inSpans (l : List Span) (n : Int) : Bool := l.any fun s => withinB n s.lo s.hi
end Go.Ab
namespace Go.Ab
open Go.RowKit Go.Proofs
set_option maxHeartbeats 8000000
set_option maxRecDepth 20000
attribute [local irreducible] WalkL Walk
end Go.Ab
namespace Go.Ab
open Go.RowKit Go.Proofs
set_option maxHeartbeats 4000000
set_option maxRecDepth 20000
structure RealX where
  seen : List Sight
  skies : List Sky
  lim : Limits
  len : Int
def RealX.cells (x : RealX) : List DV := [.sl (sightRows x.seen), .sl (skyRows x.skies), .i x.lim.wind, .i x.lim.rain, .i x.lim.temp.lo, .i x.lim.temp.hi, .i x.len]
structure EaseX where
  sight : Sight
  wind : Int
  rain : Int
  temp : Int
  less : Int
def EaseX.cells (y : EaseX) : List DV := [.i y.sight.hour, .i y.sight.sky.wind, .i y.sight.sky.rain, .i y.sight.sky.temp, .i y.wind, .i y.rain, .i y.temp, .i y.less]
theorem addSpan_ok {A : List Span} {n : Nat} (hA : ∀ s ∈ A, 0 ≤ s.lo ∧ s.lo ≤ s.hi ∧ s.hi < (n : Int)) : ∀ s ∈ addSpan A (n : Int), 0 ≤ s.lo ∧ s.lo ≤ s.hi ∧ s.hi < ((n + 1 : Nat) : Int) := by
  rcases last_split A with rfl | ⟨B, s, rfl⟩
  · intro x hx
    simp only [addSpan, List.getLast?_nil, List.mem_singleton] at hx
    subst hx
    dsimp only
    omega
  · rw [z290]
    have hs := hA s (by simp)
    intro x hx
    split at hx
    · rcases List.mem_append.1 hx with hx | hx
      · have := hA x (by simp [hx]); omega
      · simp only [List.mem_singleton] at hx
        subst hx
        dsimp only
        omega
    · rcases List.mem_append.1 hx with hx | hx
      · have := hA x hx; omega
      · simp only [List.mem_singleton] at hx
        subst hx
        dsimp only
        omega
theorem spansQ_ok (q : Nat → Bool) : ∀ n, ∀ s ∈ spansQ q n, 0 ≤ s.lo ∧ s.lo ≤ s.hi ∧ s.hi < (n : Int)
  | 0 => fun s hs => by simp [spansQ] at hs
  | n + 1 => by
    have ih := spansQ_ok q n
    rw [spansQ]
    split
    · exact addSpan_ok ih
    · intro s hs
      have := ih s hs
      omega
theorem scens5_mem {F : List (List Hour)} {seen : List Sight} {l' : List Hour} : l' ∈ scensOf (possL F seen) ↔ ∃ l ∈ F, agreesB seen l = true ∧ l' = seenHours seen l := by
  unfold scensOf possL
  generalize hj : 0 = j
  clear hj
  induction F generalizing j with
  | nil => simp [possFrom]
  | cons x F ih =>
    rw [possFrom]
    split
    · rename_i h
      rw [List.map_cons, List.mem_cons, ih]
      constructor
      · rintro (rfl | ⟨l, h1, h2⟩)
        · exact ⟨x, by simp, h, rfl⟩
        · exact ⟨l, by simp [h1], h2⟩
      · rintro ⟨l, h1, h2, h3⟩
        rcases List.mem_cons.1 h1 with rfl | h1
        · exact Or.inl h3
        · exact Or.inr ⟨l, h1, h2, h3⟩
    · rename_i h
      rw [ih]
      constructor
      · rintro ⟨l, h1, h2⟩
        exact ⟨l, by simp [h1], h2⟩
      · rintro ⟨l, h1, h2, h3⟩
        rcases List.mem_cons.1 h1 with rfl | h1
        · exact absurd h2 h
        · exact ⟨l, h1, h2, h3⟩
theorem z272 {s : Sky} {h : Hour} : insideB s h = true ↔ (h.wind.lo ≤ s.wind ∧ s.wind ≤ h.wind.hi) ∧ (h.rain.lo ≤ s.rain ∧ s.rain ≤ h.rain.hi) ∧ (h.temp.lo ≤ s.temp ∧ s.temp ≤ h.temp.hi) := by
  simp [insideB, withinB]
theorem kept_iff {s : Sky} {l : Limits} : keptB s l = true ↔ s.wind ≤ l.wind ∧ s.rain ≤ l.rain ∧ l.temp.lo ≤ s.temp ∧ s.temp ≤ l.temp.hi := by simp [keptB, withinB]
theorem always_iff {l : Limits} {h : Hour} : alwaysB l h = true ↔ h.wind.hi ≤ l.wind ∧ h.rain.hi ≤ l.rain ∧ l.temp.lo ≤ h.temp.lo ∧ h.temp.hi ≤ l.temp.hi := by simp [alwaysB]
theorem ever_iff {l : Limits} {h : Hour} : everB l h = true ↔ h.wind.lo ≤ l.wind ∧ h.rain.lo ≤ l.rain ∧ max l.temp.lo h.temp.lo ≤ min l.temp.hi h.temp.hi := by simp [everB]
theorem always_kept {x : Sky} {l : Limits} {h : Hour} (hi : insideB x h = true) (ha : alwaysB l h = true) : keptB x l = true := by
  rw [z272] at hi
  rw [always_iff] at ha
  rw [kept_iff]
  omega
theorem kept_ever {x : Sky} {l : Limits} {h : Hour} (hi : insideB x h = true) (hk : keptB x l = true) : everB l h = true := by
  rw [z272] at hi
  rw [kept_iff] at hk
  rw [ever_iff]
  omega
def IsBegin (l : List Bool) (n h : Nat) : Prop := ∀ k, h ≤ k → k < h + n → l[k]? = some true
theorem z170 {n : Nat} (hn : 1 ≤ n) (L : List Bool) : ∀ (b : List Bool) (i run : Nat), L.drop i = b → run < n → run ≤ i → (∀ k, i - run ≤ k → k < i → L[k]? = some true) → (run < i → L[i - run - 1]? = some false) → (∀ h, h + n ≤ i → ¬ IsBegin L n h) →
    (beginsFrom (n : Int) b i run = -1 ∧ ∀ h, ¬ IsBegin L n h) ∨ ∃ r : Nat, beginsFrom (n : Int) b i run = r ∧ IsBegin L n r ∧ ∀ h < r, ¬ IsBegin L n h
  | [], i, run, hd, h1, h2, h3, h4, h5 => by
    refine .inl ⟨rfl, fun h hb => ?_⟩
    have hl : L.length ≤ i := by
      have := congrArg List.length hd
      simp at this
      omega
    have := hb (h + n - 1) (by omega) (by omega)
    have : h + n - 1 < L.length := (List.getElem?_eq_some_iff.1 this).1
    exact h5 h (by omega) hb
  | x :: b, i, run, hd, h1, h2, h3, h4, h5 => by
    have hx : L[i]? = some x := by
      have := congrArg (·[0]?) hd
      simpa using this
    have hd' : L.drop (i + 1) = b := by
      have := congrArg List.tail hd
      simpa using this
    rw [beginsFrom]
    cases x
    · simp only [Bool.false_eq_true, if_false]
      rw [if_neg (by omega)]
      refine z170 hn L b (i + 1) 0 hd' (by omega) (by omega) (fun k _ _ => by omega) (fun _ => by simpa using hx) ?_
      intro h hh hb
      by_cases hc : h + n ≤ i
      · exact h5 h hc hb
      · have := hb i (by omega) (by omega)
        rw [hx] at this
        cases this
    · simp only [if_true]
      by_cases he : (run : Int) + 1 = n
      · rw [if_pos he]
        refine .inr ⟨i - run, by omega, fun k hk1 hk2 => ?_, fun h hh => h5 h (by omega)⟩
        by_cases hk : k = i
        · rw [hk]; exact hx
        · exact h3 k hk1 (by omega)
      · rw [if_neg he]
        have := z170 hn L b (i + 1) (run + 1) hd' (by omega) (by omega) (fun k hk1 hk2 => by
          by_cases hk : k = i
          · rw [hk]; exact hx
          · exact h3 k (by omega) (by omega)) (fun hlt => by
            have := h4 (by omega)
            rw [show i + 1 - (run + 1) - 1 = i - run - 1 by omega]
            exact this) ?_
        · simpa using this
        · intro h hh hb
          by_cases hc : h + n ≤ i
          · exact h5 h hc hb
          · by_cases hr : run < i
            · have e := hb (i - run - 1) (by omega) (by omega)
              rw [h4 hr] at e
              cases e
            · omega
theorem z283 {n : Nat} (hn : 1 ≤ n) (l : List Bool) : (beginsF l n = -1 ∧ ∀ h, ¬ IsBegin l n h) ∨ ∃ r : Nat, beginsF l n = r ∧ IsBegin l n r ∧ ∀ h < r, ¬ IsBegin l n h := by
  have := z170 hn l l 0 0 rfl (by omega) (by omega) (fun k _ h => by omega) (fun h => by omega) (fun h hh => by omega)
  exact this
theorem begins_of {n : Nat} (hn : 1 ≤ n) {l : List Bool} {h : Nat} (hb : IsBegin l n h) : 0 ≤ beginsF l n ∧ beginsF l n ≤ h := by
  rcases z283 hn l with ⟨_, h2⟩ | ⟨r, h1, h2, h3⟩
  · exact absurd hb (h2 h)
  · rw [h1]
    refine ⟨by omega, ?_⟩
    by_cases hc : h < r
    · exact absurd hb (h3 h hc)
    · omega
theorem begins_is {n : Nat} (hn : 1 ≤ n) {l : List Bool} (h : 0 ≤ beginsF l n) : IsBegin l n (beginsF l n).toNat := by
  rcases z283 hn l with ⟨h1, _⟩ | ⟨r, h1, h2, h3⟩
  · omega
  · rw [h1]; simpa using h2
theorem z204 {n : Nat} (hn : 1 ≤ n) {l : List Bool} (h : 0 ≤ beginsF l n) : beginsF l n + n ≤ l.length := by
  have := begins_is hn h ((beginsF l n).toNat + n - 1) (by omega) (by omega)
  have := (List.getElem?_eq_some_iff.1 this).1
  omega
def LeB (A B : List Bool) : Prop := ∀ k : Nat, A[k]? = some true → B[k]? = some true
theorem LeB.drop {A B : List Bool} (h : LeB A B) (k : Nat) : LeB (A.drop k) (B.drop k) := fun i hi => by
  rw [List.getElem?_drop] at hi ⊢
  exact h _ hi
theorem z129 {n : Nat} (hn : 1 ≤ n) {A B : List Bool} (h : LeB A B) (hA : 0 ≤ beginsF A n) : 0 ≤ beginsF B n ∧ beginsF B n ≤ beginsF A n := by
  have := begins_of hn (l := B) (h := (beginsF A n).toNat) (fun k h1 h2 => h k (begins_is hn hA k h1 h2))
  omega
theorem gapAt_mono {n : Nat} (hn : 1 ≤ n) {A B : List Bool} (h : LeB A B) (hl : A.length = B.length) {k : Nat} (hk : k ≤ A.length) : gapAt B n k ≤ gapAt A n k := by
  unfold gapAt
  by_cases hA : 0 ≤ beginsF (A.drop k) n
  · have := z129 hn (h.drop k) hA
    rw [if_pos (show decide (beginsF (A.drop k) n ≥ 0) = true by simpa using hA), if_pos (show decide (beginsF (B.drop k) n ≥ 0) = true by simpa using this.1)]
    omega
  · rw [if_neg (show ¬ decide (beginsF (A.drop k) n ≥ 0) = true by simpa using hA)]
    by_cases hB : 0 ≤ beginsF (B.drop k) n
    · have := z204 hn hB
      rw [List.length_drop] at this
      rw [if_pos (show decide (beginsF (B.drop k) n ≥ 0) = true by simpa using hB)]
      omega
    · rw [if_neg (show ¬ decide (beginsF (B.drop k) n ≥ 0) = true by simpa using hB)]
      omega
theorem gapTo_le {b : List Bool} {n : Int} {G : Int} : ∀ (k : Nat) (g : Int), gapTo b n k g ≤ G ↔ g ≤ G ∧ ∀ j < k, gapAt b n j ≤ G
  | 0, g => by simp [gapTo]
  | k + 1, g => by
    rw [gapTo, Int.max_le, gapTo_le k g]
    constructor
    · rintro ⟨⟨h1, h2⟩, h3⟩
      refine ⟨h1, fun j hj => ?_⟩
      rcases Nat.lt_succ_iff_lt_or_eq.1 hj with h | rfl
      · exact h2 j h
      · exact h3
    · rintro ⟨h1, h2⟩
      exact ⟨⟨h1, fun j hj => h2 j (by omega)⟩, h2 k (by omega)⟩
theorem gapS_fold {l : Limits} {n : Int} {G : Int} : ∀ (S : List (List Hour)) (g : Int), S.foldl (fun g s => gapTo (s.map (alwaysB l)) n s.length g) g ≤ G ↔ g ≤ G ∧ ∀ s ∈ S, ∀ j < s.length, gapAt (s.map (alwaysB l)) n j ≤ G
  | [], g => by simp
  | s :: S, g => by
    rw [List.foldl_cons, gapS_fold S, gapTo_le]
    simp only [List.mem_cons, forall_eq_or_imp, and_assoc]
theorem gapS_le {l : Limits} {n : Int} {G : Int} {S : List (List Hour)} : gapS l n S ≤ G ↔ 0 ≤ G ∧ ∀ s ∈ S, ∀ j < s.length, gapAt (s.map (alwaysB l)) n j ≤ G := gapS_fold S 0
theorem z161 {l : Limits} {n G : Int} : ∀ (S : List (List Hour)) (H : Int), G ≤ winFirst l n S H ↔ G ≤ H ∧ ∀ s ∈ S, 0 ≤ beginsF (s.map (everB l)) n → G ≤ beginsF (s.map (everB l)) n
  | [], H => by simp [winFirst]
  | s :: S, H => by
    have ih := z161 (l := l) (n := n) (G := G) S
    unfold winFirst at ih ⊢
    rw [List.foldl_cons, ih]
    simp only [List.mem_cons, forall_eq_or_imp]
    by_cases h : 0 ≤ beginsF (s.map (everB l)) n
    · rw [if_pos (by simpa using h), Int.le_min]
      constructor
      · rintro ⟨⟨h1, h2⟩, h3⟩; exact ⟨h1, fun _ => h2, h3⟩
      · rintro ⟨h1, h2, h3⟩; exact ⟨⟨h1, h2 h⟩, h3⟩
    · rw [if_neg (by simpa using h)]
      constructor
      · rintro ⟨h1, h3⟩; exact ⟨h1, fun hc => absurd hc h, h3⟩
      · rintro ⟨h1, _, h3⟩; exact ⟨h1, h3⟩
theorem z207 {l : Limits} {n G : Int} : ∀ (S : List (List Hour)) (a : Int), S.foldl (fun a s => max a (beginsF (s.map (alwaysB l)) n)) a ≤ G ↔ a ≤ G ∧ ∀ s ∈ S, beginsF (s.map (alwaysB l)) n ≤ G
  | [], a => by simp
  | s :: S, a => by
    rw [List.foldl_cons, z207 S, Int.max_le]
    simp only [List.mem_cons, forall_eq_or_imp, and_assoc]
theorem winLast_le {l : Limits} {n G : Int} {S : List (List Hour)} : winLast l n S ≤ G ↔ -1 ≤ G ∧ ∀ s ∈ S, beginsF (s.map (alwaysB l)) n ≤ G := z207 S _
def keptL (m : List Sky) (l : Limits) : List Bool := m.map fun x => keptB x l
theorem map_hour {s : List Hour} {q : Hour → Bool} {k : Nat} (hk : k < s.length) : (s.map q)[k]? = some (q (hourAt s (k : Int))) := by
  rw [List.getElem?_map]
  have := z66 (l := s) (i := (k : Int)) ⟨by omega, by omega⟩
  rw [Int.toNat_natCast] at this
  rw [this]
  rfl
theorem keptL_at {m : List Sky} {l : Limits} {k : Nat} (hk : k < m.length) : (keptL m l)[k]? = some (keptB (skyAt m k) l) := by
  rw [keptL, List.getElem?_map, skyAt_get hk]
  rfl
theorem kept_between {m : List Sky} {l : Limits} {s : List Hour} (hl : s.length = m.length) (hin : ∀ j < m.length, insideB (skyAt m j) (hourAt s (j : Int)) = true) :
    LeB (s.map (alwaysB l)) (keptL m l) ∧ LeB (keptL m l) (s.map (everB l)) := by
  constructor
  · intro k hk
    have hlt : k < s.length := by have := (List.getElem?_eq_some_iff.1 hk).1; simpa using this
    rw [map_hour hlt] at hk
    rw [keptL_at (by omega)]
    rw [always_kept (hin k (by omega)) (by simpa using hk)]
  · intro k hk
    have hlt : k < m.length := by have := (List.getElem?_eq_some_iff.1 hk).1; simpa [keptL] using this
    rw [keptL_at hlt] at hk
    rw [map_hour (by omega), kept_ever (hin k hlt) (by simpa using hk)]
theorem comes {S : List (List Hour)} {m : List Sky} {l : Limits} {n : Nat} (hn : 1 ≤ n) {s : List Hour} (hs : s ∈ S) (hl : s.length = m.length) (hin : ∀ j < m.length, insideB (skyAt m j) (hourAt s (j : Int)) = true) :
    (0 ≤ beginsF (keptL m l) n → 0 ≤ winFirst l n S m.length ∧ winFirst l n S m.length ≤ beginsF (keptL m l) n ∧ winFirst l n S m.length < m.length) ∧
    (winNever l n S = false → 0 ≤ beginsF (keptL m l) n ∧ beginsF (keptL m l) n ≤ winLast l n S ∧ winFirst l n S m.length ≤ winLast l n S) ∧
    ∀ k < m.length, gapAt (keptL m l) n k ≤ gapS l n S := by
  obtain ⟨hA, hE⟩ := kept_between (l := l) hl hin
  have hf := (z161 S _).1 (Int.le_refl (winFirst l (n : Int) S m.length))
  have hla := winLast_le.1 (Int.le_refl (winLast l (n : Int) S))
  have hga := gapS_le.1 (Int.le_refl (gapS l (n : Int) S))
  refine ⟨fun hb => ?_, fun hnv => ?_, fun k hk => ?_⟩
  · have h1 := z129 hn hE hb
    have h2 := hf.2 s hs h1.1
    have h3 := z204 hn hb
    have h4 : (keptL m l).length = m.length := by simp [keptL]
    refine ⟨(z161 S _).2 ⟨by omega, fun _ _ h => h⟩, by omega, by omega⟩
  · have hs0 : 0 ≤ beginsF (s.map (alwaysB l)) n := by
      unfold winNever at hnv
      have := List.any_eq_false.1 hnv s hs
      simpa using this
    have h1 := z129 hn hA hs0
    have h2 := hla.2 s hs
    have h3 := z129 hn hE h1.1
    have h4 := hf.2 s hs h3.1
    exact ⟨h1.1, by omega, by omega⟩
  · have h1 := hga.2 s hs k (by omega)
    have h2 := gapAt_mono hn hA (by simp [keptL, hl]) (k := k) (by rw [List.length_map]; omega)
    omega
end Go.Ab
namespace Go.Ab
open Go.RowKit Go.Proofs
set_option maxHeartbeats 4000000
set_option maxRecDepth 20000
def widerL (l : Limits) (wind rain temp : Int) : Limits := ⟨min 200 (l.wind + wind), min 100 (l.rain + rain), ⟨max (-50) (l.temp.lo - temp), min 50 (l.temp.hi + temp)⟩⟩
def withinS (A B : List Span) (H : Nat) : Bool := (List.range H).all fun h => !(inSpans A (h : Int)) || inSpans B (h : Int)
end Go.Ab
namespace Go.Ab
open Go.RowKit Go.Proofs
set_option maxHeartbeats 4000000
set_option maxRecDepth 20000
attribute [local irreducible] WalkL Walk
structure Carrier where
  lift : Int
  heat : Int
  cost : Int
  lim : Limits
def Carrier.row (c : Carrier) : List DV := [.i c.lift, .i c.heat, .i c.cost, .i c.lim.wind, .i c.lim.rain, .i c.lim.temp.lo, .i c.lim.temp.hi]
def carrRows (l : List Carrier) : List (List DV) := l.map Carrier.row
theorem z25 (l : List Carrier) : (carrRows l).length = l.length := by simp [carrRows]
theorem z128 {l : List Carrier} {i : Nat} {x : Carrier} (h : l[i]? = some x) : (carrRows l)[i]? = some x.row := by simp [carrRows, h]
structure Supply where
  scen : List (List Hour)
  seen : List Sight
  stock : Int
  reserve : Int
  room : Int
  use : Span
  carr : List Carrier
def Supply.cells (s : Supply) : List DV := [.sl (scenRows s.scen), .sl (sightRows s.seen), .i s.stock, .i s.reserve, .i s.room, .i s.use.lo, .i s.use.hi, .sl (carrRows s.carr)]
structure SuppSmall (s : Supply) : Prop where
  fore : ForeSmall s.scen
  seen : s.seen.length < 2 ^ 30
  carr : s.carr.length < 2 ^ 30
theorem zf39 (n lo hi : Int) : Fn Tryz.prog 39 [.i n, .i lo, .i hi] (.bool (withinB n lo hi)) := by
  refine z21 15 Tryz.call39 Tryz.func39 rfl (by decide) fun J => ?_
  simp (maxSteps := 4000000) only [go_sem, St.start, Tryz.ntmps39, Tryz.results39]
  by_cases h : lo ≤ n
  · repeat (first | refine z14 ?_ | refine z9 ?_ | refine z7 ?_ | (refine z5 fun K hK => ?_; simp (maxSteps := 4000000) only [go_sem, h]; refine hK _ ?_; clear hK K) | refine z13 ?_ | refine z15 ?_ | refine z10 ?_ | refine z8 ?_ | refine z6 rfl ?_ | refine z12 ?_ | refine z3 ?_ | refine z16 ?_ | refine z11 ?_ | refine z4 ?_)
    simp (maxSteps := 4000000) only [go_sem, withinB, h]
  · repeat (first | refine z14 ?_ | refine z9 ?_ | refine z7 ?_ | (refine z5 fun K hK => ?_; simp (maxSteps := 4000000) only [go_sem, h]; refine hK _ ?_; clear hK K) | refine z13 ?_ | refine z15 ?_ | refine z10 ?_ | refine z8 ?_ | refine z6 rfl ?_ | refine z12 ?_ | refine z3 ?_ | refine z16 ?_ | refine z11 ?_ | refine z4 ?_)
    simp (maxSteps := 4000000) only [go_sem, withinB, h]
theorem zf65 (n lo hi : Int) : Fn Tryz.prog 65 [.i n, .i lo, .i hi] (.bool (withinB n lo hi)) := by
  refine z21 15 Tryz.call65 Tryz.func65 rfl (by decide) fun J => ?_
  simp (maxSteps := 4000000) only [go_sem, St.start, Tryz.ntmps65, Tryz.results65]
  by_cases h : n ≥ lo
  · repeat (first | refine z14 ?_ | refine z9 ?_ | refine z7 ?_ | (refine z5 fun K hK => ?_; simp (maxSteps := 4000000) only [go_sem, h]; refine hK _ ?_; clear hK K) | refine z13 ?_ | refine z15 ?_ | refine z10 ?_ | refine z8 ?_ | refine z6 rfl ?_ | refine z12 ?_ | refine z3 ?_ | refine z16 ?_ | refine z11 ?_ | refine z4 ?_)
    simp (maxSteps := 4000000) only [go_sem, withinB, h]
  · repeat (first | refine z14 ?_ | refine z9 ?_ | refine z7 ?_ | (refine z5 fun K hK => ?_; simp (maxSteps := 4000000) only [go_sem, h]; refine hK _ ?_; clear hK K) | refine z13 ?_ | refine z15 ?_ | refine z10 ?_ | refine z8 ?_ | refine z6 rfl ?_ | refine z12 ?_ | refine z3 ?_ | refine z16 ?_ | refine z11 ?_ | refine z4 ?_)
    simp (maxSteps := 4000000) only [go_sem, withinB, h]
theorem zf105 (s : Span) (lo hi : Int) : Fn Tryz.prog 105 [.agg s.row, .i lo, .i hi] (.bool (orderedB s lo hi)) := by
  refine z21 24 Tryz.call105 Tryz.func105 rfl (by decide) fun J => ?_
  simp (maxSteps := 4000000) only [go_sem, St.start, Tryz.ntmps105, Tryz.results105, Span.row]
  by_cases h : lo ≤ s.lo <;> by_cases h2 : s.lo ≤ s.hi
  all_goals
    repeat (first | refine z14 ?_ | refine z9 ?_ | refine z7 ?_ | (refine z5 fun K hK => ?_; simp (maxSteps := 4000000) only [go_sem, h, h2]; refine hK _ ?_; clear hK K) | refine z13 ?_ | refine z15 ?_ | refine z10 ?_ | refine z8 ?_ | refine z6 rfl ?_ | refine z12 ?_ | refine z3 ?_ | refine z16 ?_ | refine z11 ?_ | refine z4 ?_)
    simp (maxSteps := 4000000) only [go_sem, orderedB, h, h2]
theorem zf106 (l : Limits) : Fn Tryz.prog 106 [.agg l.row] (.bool (limB l)) := by
  have h1 := zf39 l.wind 0 200
  have h2 := zf39 l.rain 0 100
  have h3 := zf105 l.temp (-50) 50
  rw [Span.row] at h3
  obtain ⟨b1, e1⟩ : ∃ b, b = withinB l.wind 0 200 := ⟨_, rfl⟩
  obtain ⟨b2, e2⟩ : ∃ b, b = withinB l.rain 0 100 := ⟨_, rfl⟩
  obtain ⟨b3, e3⟩ : ∃ b, b = orderedB l.temp (-50) 50 := ⟨_, rfl⟩
  rw [limB, ← e1, ← e2, ← e3]
  rw [← e1] at h1
  rw [← e2] at h2
  rw [← e3] at h3
  refine z21 16 Tryz.call106 Tryz.func106 rfl (by decide) fun J => ?_
  simp (maxSteps := 4000000) only [go_sem, St.start, Tryz.ntmps106, Tryz.results106, Limits.row]
  cases b1 <;> cases b2
  all_goals
    repeat (first | refine z14 ?_ | refine z9 ?_ | refine z7 ?_ | (refine z5 fun K hK => ?_; simp (maxSteps := 4000000) only [go_sem]; (repeat (first | (refine ⟨_, .lent (hf := h1) (hd := rfl) (hr := rfl), ?_⟩; simp (maxSteps := 4000000) only [go_sem]) | (refine ⟨_, .lent (hf := h2) (hd := rfl) (hr := rfl), ?_⟩; simp (maxSteps := 4000000) only [go_sem]) | (refine ⟨_, .lent (hf := h3) (hd := rfl) (hr := rfl), ?_⟩; simp (maxSteps := 4000000) only [go_sem]) | (refine ⟨_, .given (hf := h1) (hd := rfl) (ha := rfl), ?_⟩; simp (maxSteps := 4000000) only [go_sem]) | (refine ⟨_, .given (hf := h2) (hd := rfl) (ha := rfl), ?_⟩; simp (maxSteps := 4000000) only [go_sem]) | (refine ⟨_, .given (hf := h3) (hd := rfl) (ha := rfl), ?_⟩; simp (maxSteps := 4000000) only [go_sem]))); refine hK _ ?_; clear hK K) | refine z13 ?_ | refine z15 ?_ | refine z10 ?_ | refine z8 ?_ | refine z6 rfl ?_ | refine z12 ?_ | refine z3 ?_ | refine z16 ?_ | refine z11 ?_ | refine z4 ?_)
    simp (maxSteps := 4000000) only [go_sem]
def carrBad (c : Carrier) : Bool := !withinB c.lift 0 1000 || (!withinB c.heat 0 50 || (!withinB c.cost 0 10000 || !limB c.lim))
theorem zf107 (c : Carrier) : Fn Tryz.prog 107 [.agg c.row, .ptr [.fn 106 []] 0] (.bool (carrBad c)) := by
  have h1 := zf39 c.lift 0 1000
  have h2 := zf39 c.heat 0 50
  have h3 := zf39 c.cost 0 10000
  have h4 := zf106 c.lim
  rw [Limits.row] at h4
  obtain ⟨b1, e1⟩ : ∃ b, b = withinB c.lift 0 1000 := ⟨_, rfl⟩
  obtain ⟨b2, e2⟩ : ∃ b, b = withinB c.heat 0 50 := ⟨_, rfl⟩
  obtain ⟨b3, e3⟩ : ∃ b, b = withinB c.cost 0 10000 := ⟨_, rfl⟩
  obtain ⟨b4, e4⟩ : ∃ b, b = limB c.lim := ⟨_, rfl⟩
  rw [carrBad, ← e1, ← e2, ← e3, ← e4]
  rw [← e1] at h1
  rw [← e2] at h2
  rw [← e3] at h3
  rw [← e4] at h4
  refine z21 27 Tryz.call107 Tryz.func107 rfl (by decide) fun J => ?_
  simp (maxSteps := 4000000) only [go_sem, St.start, Tryz.ntmps107, Tryz.results107, Carrier.row]
  cases b1 <;> cases b2 <;> cases b3
  all_goals
    repeat (first | refine z14 ?_ | refine z9 ?_ | refine z7 ?_ | (refine z5 fun K hK => ?_; simp (maxSteps := 4000000) only [go_sem]; (repeat (first | (refine ⟨_, .lent (hf := h1) (hd := rfl) (hr := rfl), ?_⟩; simp (maxSteps := 4000000) only [go_sem]) | (refine ⟨_, .lent (hf := h2) (hd := rfl) (hr := rfl), ?_⟩; simp (maxSteps := 4000000) only [go_sem]) | (refine ⟨_, .lent (hf := h3) (hd := rfl) (hr := rfl), ?_⟩; simp (maxSteps := 4000000) only [go_sem]) | (refine ⟨_, .lent (hf := h4) (hd := rfl) (hr := rfl), ?_⟩; simp (maxSteps := 4000000) only [go_sem]) | (refine ⟨_, .given (hf := h1) (hd := rfl) (ha := rfl), ?_⟩; simp (maxSteps := 4000000) only [go_sem]) | (refine ⟨_, .given (hf := h2) (hd := rfl) (ha := rfl), ?_⟩; simp (maxSteps := 4000000) only [go_sem]) | (refine ⟨_, .given (hf := h3) (hd := rfl) (ha := rfl), ?_⟩; simp (maxSteps := 4000000) only [go_sem]) | (refine ⟨_, .given (hf := h4) (hd := rfl) (ha := rfl), ?_⟩; simp (maxSteps := 4000000) only [go_sem]))); refine hK _ ?_; clear hK K) | refine z13 ?_ | refine z15 ?_ | refine z10 ?_ | refine z8 ?_ | refine z6 rfl ?_ | refine z12 ?_ | refine z3 ?_ | refine z16 ?_ | refine z11 ?_ | refine z4 ?_)
    simp (maxSteps := 4000000) only [go_sem]
theorem zf140 (xs : List Carrier) (g : Nat) (caps : List DV) (q : Carrier → Bool) (hq : ∀ s ∈ xs, Fn Tryz.prog g (.agg s.row :: caps) (.bool (q s))) (hl : xs.length < 2 ^ 62) : Fn Tryz.prog 140 [.sl (carrRows xs), .fn g caps] (.i (idxFrom q xs 0)) := by
  refine z21 19 Tryz.call140 Tryz.func140 rfl (by decide) fun J => ?_
  simp (maxSteps := 4000000) only [go_sem, St.start, Tryz.ntmps140, Tryz.results140]
  repeat (first | refine z14 ?_ | refine z9 ?_ | refine z7 ?_ | (refine z5 fun K hK => ?_; simp (maxSteps := 4000000) only [go_sem]; refine hK _ ?_; clear hK K) | refine z13 ?_ | refine z15 ?_ | refine z10 ?_ | refine z8 ?_ | refine z6 rfl ?_ | refine z12 ?_ | refine z3 ?_ | refine z16 ?_ | refine z11 ?_ | refine z4 ?_)
  refine z22 (fun (i : Nat) => [(8, .d (.i i))]) (fun _ => []) (fun i => i ≤ xs.length ∧ idxFrom q xs 0 = idxFrom q (xs.drop i) i) (fun i => xs.length - i) 0 ?_ ⟨Nat.zero_le _, rfl⟩ ?_
  · simp (maxSteps := 4000000) only [go_sem]
    refine z19 [] ?_ ?_ rfl rfl <;> simp [lessT, lessM, lessB, AV.less]
  · intro i ⟨hi, hq0⟩
    simp (maxSteps := 4000000) only [go_sem]
    repeat (first | refine z14 ?_ | refine z9 ?_ | refine z7 ?_ | (refine z5 fun K hK => ?_; simp (maxSteps := 4000000) only [go_sem]; refine hK _ ?_; clear hK K) | refine z13 ?_ | refine z15 ?_ | refine z10 ?_ | refine z8 ?_ | refine z6 rfl ?_ | refine z12 ?_ | refine z3 ?_ | refine z16 ?_ | refine z11 ?_ | refine z4 ?_)
    refine z20 rfl (fun hb => ?_) (fun hb => ?_)
    · rw [z25] at hb
      have hlt : i < xs.length := by simpa using hb
      have hw : IntKind.i64.wrap ((i : Int) + 1) = ((i + 1 : Nat) : Int) := by rw [z23 (by omega)]; simp
      obtain ⟨s, hs⟩ : ∃ s, xs[i]? = some s := ⟨_, List.getElem?_eq_getElem hlt⟩
      rw [z30 hs, idxFrom] at hq0
      repeat (first | refine z14 ?_ | refine z9 ?_ | refine z7 ?_ | (refine z5 fun K hK => ?_; simp (maxSteps := 4000000) only [go_sem]; refine hK _ ?_; clear hK K) | refine z13 ?_ | refine z15 ?_ | refine z10 ?_ | refine z8 ?_ | refine z6 rfl ?_ | refine z12 ?_ | refine z3 ?_ | refine z16 ?_ | refine z11 ?_ | refine z4 ?_)
      refine z5 fun K hK => ?_
      simp (maxSteps := 4000000) only [go_sem, hs, List.getElem?_map, z128 hs, Carrier.row, hw]
      refine ⟨_, .lent (hf := hq s (List.mem_of_getElem? hs)) (hd := z28 _ _ _ _ rfl) (hr := rfl), ?_⟩
      simp (maxSteps := 4000000) only [go_sem]
      refine hK _ ?_
      clear hK K
      refine z20 rfl (fun hc => ?_) (fun hc => ?_)
      · rw [hc, if_pos rfl] at hq0
        repeat (first | refine z14 ?_ | refine z9 ?_ | refine z7 ?_ | (refine z5 fun K hK => ?_; simp (maxSteps := 4000000) only [go_sem]; refine hK _ ?_; clear hK K) | refine z13 ?_ | refine z15 ?_ | refine z10 ?_ | refine z8 ?_ | refine z6 rfl ?_ | refine z12 ?_ | refine z3 ?_ | refine z16 ?_ | refine z11 ?_ | refine z4 ?_)
        simp (maxSteps := 4000000) only [go_sem, hq0]
      · rw [hc] at hq0
        repeat (first | refine z14 ?_ | refine z9 ?_ | refine z7 ?_ | (refine z5 fun K hK => ?_; simp (maxSteps := 4000000) only [go_sem, hw]; refine hK _ ?_; clear hK K) | refine z13 ?_ | refine z15 ?_ | refine z10 ?_ | refine z8 ?_ | refine z6 rfl ?_ | refine z12 ?_ | refine z3 ?_ | refine z16 ?_ | refine z11 ?_ | refine z4 ?_)
        refine ⟨rfl, i + 1, ?_, ⟨hlt, hq0⟩, by omega⟩
        refine z19 [] ?_ ?_ rfl rfl <;> simp [lessT, lessM, lessB, AV.less]
    · rw [z25] at hb
      have he : i = xs.length := by (have : ¬ i < xs.length := by simpa using hb); omega
      subst he
      repeat (first | refine z14 ?_ | refine z9 ?_ | refine z7 ?_ | (refine z5 fun K hK => ?_; simp (maxSteps := 4000000) only [go_sem]; refine hK _ ?_; clear hK K) | refine z13 ?_ | refine z15 ?_ | refine z10 ?_ | refine z8 ?_ | refine z6 rfl ?_ | refine z12 ?_ | refine z3 ?_ | refine z16 ?_ | refine z11 ?_ | refine z4 ?_)
      simp (maxSteps := 4000000) only [go_sem, hq0, List.drop_length, idxFrom]
theorem zf108 (xs : List Carrier) (g : Nat) (caps : List DV) (q : Carrier → Bool) (hq : ∀ s ∈ xs, Fn Tryz.prog g (.agg s.row :: caps) (.bool (q s))) (hl : xs.length < 2 ^ 62) : Fn Tryz.prog 108 [.sl (carrRows xs), .fn g caps] (.bool (xs.any q)) := by
  refine z21 9 Tryz.call108 Tryz.func108 rfl (by decide) fun J => ?_
  simp (maxSteps := 4000000) only [go_sem, St.start, Tryz.ntmps108, Tryz.results108]
  repeat (first | refine z14 ?_ | refine z9 ?_ | refine z7 ?_ | (refine z5 fun K hK => ?_; simp (maxSteps := 4000000) only [go_sem]; (repeat (first | (refine ⟨_, .lent (hf := zf140 xs g caps q hq hl) (hd := rfl) (hr := rfl), ?_⟩; simp (maxSteps := 4000000) only [go_sem]) | (refine ⟨_, .given (hf := zf140 xs g caps q hq hl) (hd := rfl) (ha := rfl), ?_⟩; simp (maxSteps := 4000000) only [go_sem]))); refine hK _ ?_; clear hK K) | refine z13 ?_ | refine z15 ?_ | refine z10 ?_ | refine z8 ?_ | refine z6 rfl ?_ | refine z12 ?_ | refine z3 ?_ | refine z16 ?_ | refine z11 ?_ | refine z4 ?_)
  simp (maxSteps := 4000000) only [go_sem, z34]
def storeBad (s : Supply) : Bool := !withinB s.room 0 5000 || (!withinB s.stock 0 s.room || (!withinB s.reserve 0 s.room || !orderedB s.use 0 500))
def carrsBad (s : Supply) : Bool := decide ((s.carr.length : Int) > 4) || s.carr.any carrBad
def suppE (s : Supply) : Int := if lookF s.scen s.seen 0 true = 0 then (if storeBad s then 60 else if carrsBad s then 61 else 0) else lookF s.scen s.seen 0 true
theorem zf69 (s : Supply) (hs : SuppSmall s) : Fn Tryz.prog 69 [.agg s.cells] (.i (suppE s)) := by
  have h53 := zf104 s.scen s.seen hs.fore hs.seen
  have k3 := zf105 s.use 0 500
  rw [Span.row] at k3
  have h57 := zf108 s.carr 107 [.ptr [.fn 106 []] 0] carrBad (fun c _ => zf107 c) (by have := hs.carr; omega)
  have hcl := hs.carr
  obtain ⟨L, hL⟩ : ∃ L, L = s.carr.length := ⟨_, rfl⟩
  refine z21 58 Tryz.call69 Tryz.func69 rfl (by decide) fun J => ?_
  simp (maxSteps := 4000000) only [go_sem, St.start, Tryz.ntmps69, Tryz.results69, Supply.cells]
  obtain ⟨e, he⟩ : ∃ e, e = lookF s.scen s.seen 0 true := ⟨_, rfl⟩
  rw [suppE, ← he]
  rw [← he] at h53
  by_cases h0 : e = 0
  · rw [if_pos h0]
    have hz : (e != 0) = false := by simp [h0]
    repeat (first | refine z18 rfl ?_ | refine z17 rfl ?_ | refine z14 ?_ | refine z9 ?_ | refine z7 ?_ | (refine z5 fun K hK => ?_; simp (maxSteps := 4000000) only [go_sem, hz]; (repeat (first | (refine ⟨_, .lent (hf := h53) (hd := rfl) (hr := rfl), ?_⟩; simp (maxSteps := 4000000) only [go_sem, hz]) | (refine ⟨_, .given (hf := h53) (hd := rfl) (ha := rfl), ?_⟩; simp (maxSteps := 4000000) only [go_sem, hz]))); refine hK _ ?_; clear hK K) | refine z13 ?_ | refine z15 ?_ | refine z10 ?_ | refine z8 ?_ | refine z6 rfl ?_ | refine z12 ?_ | refine z3 ?_ | refine z16 ?_ | refine z11 ?_ | refine z4 ?_)
    refine z40 [(46, .d (.bool (storeBad s)))] [] ?_ ?_
    · refine z5 fun K hK => ?_
      simp (maxSteps := 4000000) only [go_sem]
      refine ⟨_, .lent (hf := zf39 s.room 0 5000) (hd := rfl) (hr := rfl), ?_⟩
      simp (maxSteps := 4000000) only [go_sem]
      by_cases ho0 : (!withinB s.room 0 5000) = true
      · simp (maxSteps := 4000000) only [go_sem, ho0]
        refine hK _ ?_
        clear hK K
        refine z13 ?_
        refine z4 ?_
        refine ⟨rfl, ?_⟩
        rw [show (storeBad s) = (true) from by simp [storeBad, ho0]]
        simp (maxSteps := 4000000) only [go_sem]
        refine z19 [] ?_ ?_ rfl rfl <;> simp [lessT, lessM, lessB, AV.less]
      · simp (maxSteps := 4000000) only [go_sem, ho0]
        refine ⟨_, .lent (hf := zf39 s.stock 0 s.room) (hd := rfl) (hr := rfl), ?_⟩
        simp (maxSteps := 4000000) only [go_sem, ho0]
        by_cases ho1 : (!withinB s.stock 0 s.room) = true
        · simp (maxSteps := 4000000) only [go_sem, ho0, ho1]
          refine hK _ ?_
          clear hK K
          refine z13 ?_
          refine z4 ?_
          refine ⟨rfl, ?_⟩
          rw [show (storeBad s) = (true) from by simp [storeBad, ho0, ho1]]
          simp (maxSteps := 4000000) only [go_sem]
          refine z19 [] ?_ ?_ rfl rfl <;> simp [lessT, lessM, lessB, AV.less]
        · simp (maxSteps := 4000000) only [go_sem, ho0, ho1]
          refine ⟨_, .lent (hf := zf39 s.reserve 0 s.room) (hd := rfl) (hr := rfl), ?_⟩
          simp (maxSteps := 4000000) only [go_sem, ho0, ho1]
          by_cases ho2 : (!withinB s.reserve 0 s.room) = true
          · simp (maxSteps := 4000000) only [go_sem, ho0, ho1, ho2]
            refine hK _ ?_
            clear hK K
            refine z13 ?_
            refine z4 ?_
            refine ⟨rfl, ?_⟩
            rw [show (storeBad s) = (true) from by simp [storeBad, ho0, ho1, ho2]]
            simp (maxSteps := 4000000) only [go_sem]
            refine z19 [] ?_ ?_ rfl rfl <;> simp [lessT, lessM, lessB, AV.less]
          · simp (maxSteps := 4000000) only [go_sem, ho0, ho1, ho2]
            refine ⟨_, .lent (hf := k3) (hd := rfl) (hr := rfl), ?_⟩
            simp (maxSteps := 4000000) only [go_sem, ho0, ho1, ho2]
            refine hK _ ?_
            clear hK K
            refine z13 ?_
            refine z4 ?_
            refine ⟨rfl, ?_⟩
            rw [show (storeBad s) = (!orderedB s.use 0 500) from by simp [storeBad, ho0, ho1, ho2]]
            simp (maxSteps := 4000000) only [go_sem]
            refine z19 [] ?_ ?_ rfl rfl <;> simp [lessT, lessM, lessB, AV.less]
    · simp (maxSteps := 4000000) only [go_sem]
      repeat (first | refine z14 ?_ | refine z9 ?_ | refine z7 ?_ | (refine z5 fun K hK => ?_; simp (maxSteps := 4000000) only [go_sem]; refine hK _ ?_; clear hK K) | refine z13 ?_ | refine z15 ?_ | refine z10 ?_ | refine z8 ?_ | refine z6 rfl ?_ | refine z12 ?_ | refine z3 ?_ | refine z16 ?_ | refine z11 ?_ | refine z4 ?_)
      refine z20 rfl (fun hc => ?_) (fun hc => ?_)
      · repeat (first | refine z14 ?_ | refine z9 ?_ | refine z7 ?_ | (refine z5 fun K hK => ?_; simp (maxSteps := 4000000) only [go_sem]; refine hK _ ?_; clear hK K) | refine z13 ?_ | refine z15 ?_ | refine z10 ?_ | refine z8 ?_ | refine z6 rfl ?_ | refine z12 ?_ | refine z3 ?_ | refine z16 ?_ | refine z11 ?_ | refine z4 ?_)
        simp (maxSteps := 4000000) only [go_sem, hc]
      · repeat (first | refine z14 ?_ | refine z9 ?_ | refine z7 ?_ | (refine z5 fun K hK => ?_; simp (maxSteps := 4000000) only [go_sem]; refine hK _ ?_; clear hK K) | refine z13 ?_ | refine z15 ?_ | refine z10 ?_ | refine z8 ?_ | refine z6 rfl ?_ | refine z12 ?_ | refine z3 ?_ | refine z16 ?_ | refine z11 ?_ | refine z4 ?_)
        simp (maxSteps := 4000000) only [go_sem, hc]
        cases q : decide (((carrRows s.carr).length : Int) > 4)
        · have hq : carrsBad s = s.carr.any carrBad := by rw [z25] at q; rw [carrsBad, q, Bool.false_or]
          rw [hq]
          obtain ⟨b, hb⟩ : ∃ b, b = s.carr.any carrBad := ⟨_, rfl⟩
          rw [← hb] at h57 ⊢
          repeat (first | refine z14 ?_ | refine z9 ?_ | refine z7 ?_ | (refine z5 fun K hK => ?_; simp (maxSteps := 4000000) only [go_sem, q]; (repeat (first | (refine ⟨_, .lent (hf := h57) (hd := rfl) (hr := rfl), ?_⟩; simp (maxSteps := 4000000) only [go_sem, q]) | (refine ⟨_, .given (hf := h57) (hd := rfl) (ha := rfl), ?_⟩; simp (maxSteps := 4000000) only [go_sem, q]))); refine hK _ ?_; clear hK K) | refine z13 ?_ | refine z15 ?_ | refine z10 ?_ | refine z8 ?_ | refine z6 rfl ?_ | refine z12 ?_ | refine z3 ?_ | refine z16 ?_ | refine z11 ?_ | refine z4 ?_)
          refine z20 rfl (fun hc => ?_) (fun hc => ?_)
          · repeat (first | refine z14 ?_ | refine z9 ?_ | refine z7 ?_ | (refine z5 fun K hK => ?_; simp (maxSteps := 4000000) only [go_sem]; refine hK _ ?_; clear hK K) | refine z13 ?_ | refine z15 ?_ | refine z10 ?_ | refine z8 ?_ | refine z6 rfl ?_ | refine z12 ?_ | refine z3 ?_ | refine z16 ?_ | refine z11 ?_ | refine z4 ?_)
            simp (maxSteps := 4000000) only [go_sem, hc]
          · repeat (first | refine z14 ?_ | refine z9 ?_ | refine z7 ?_ | (refine z5 fun K hK => ?_; simp (maxSteps := 4000000) only [go_sem]; refine hK _ ?_; clear hK K) | refine z13 ?_ | refine z15 ?_ | refine z10 ?_ | refine z8 ?_ | refine z6 rfl ?_ | refine z12 ?_ | refine z3 ?_ | refine z16 ?_ | refine z11 ?_ | refine z4 ?_)
            simp (maxSteps := 4000000) only [go_sem, hc]
        · have hq : carrsBad s = true := by rw [z25] at q; rw [carrsBad, q, Bool.true_or]
          rw [hq]
          repeat (first | refine z14 ?_ | refine z9 ?_ | refine z7 ?_ | (refine z5 fun K hK => ?_; simp (maxSteps := 4000000) only [go_sem, q]; refine hK _ ?_; clear hK K) | refine z13 ?_ | refine z15 ?_ | refine z10 ?_ | refine z8 ?_ | refine z6 rfl ?_ | refine z12 ?_ | refine z3 ?_ | refine z16 ?_ | refine z11 ?_ | refine z4 ?_)
          refine z18 rfl ?_
          repeat (first | refine z14 ?_ | refine z9 ?_ | refine z7 ?_ | (refine z5 fun K hK => ?_; simp (maxSteps := 4000000) only [go_sem]; refine hK _ ?_; clear hK K) | refine z13 ?_ | refine z15 ?_ | refine z10 ?_ | refine z8 ?_ | refine z6 rfl ?_ | refine z12 ?_ | refine z3 ?_ | refine z16 ?_ | refine z11 ?_ | refine z4 ?_)
          simp (maxSteps := 4000000) only [go_sem]
  · rw [if_neg h0]
    have hz : (e != 0) = true := by simp [h0]
    repeat (first | refine z18 rfl ?_ | refine z17 rfl ?_ | refine z14 ?_ | refine z9 ?_ | refine z7 ?_ | (refine z5 fun K hK => ?_; simp (maxSteps := 4000000) only [go_sem, hz]; (repeat (first | (refine ⟨_, .lent (hf := h53) (hd := rfl) (hr := rfl), ?_⟩; simp (maxSteps := 4000000) only [go_sem, hz]) | (refine ⟨_, .given (hf := h53) (hd := rfl) (ha := rfl), ?_⟩; simp (maxSteps := 4000000) only [go_sem, hz]))); refine hK _ ?_; clear hK K) | refine z13 ?_ | refine z15 ?_ | refine z10 ?_ | refine z8 ?_ | refine z6 rfl ?_ | refine z12 ?_ | refine z3 ?_ | refine z16 ?_ | refine z11 ?_ | refine z4 ?_)
    simp (maxSteps := 4000000) only [go_sem]
end Go.Ab
namespace Go.Ab
open Go.RowKit
inductive Sh where
  | int (k : IntKind)
  | bool
  | sl (row : List Sh)
mutual
def Sh.fits (N : Nat) : Sh → DV → Prop
  | .int k, d => ∃ n, d = .int k n ∧ (Lit.int k n).wf = true
  | .bool, d => ∃ b, d = .bool b
  | .sl r, d => ∃ rows, d = .sl rows ∧ rows.length ≤ N ∧ ∀ row ∈ rows, Sh.fitsL N r row
def Sh.fitsL (N : Nat) : List Sh → List DV → Prop
  | [], ds => ds = []
  | s :: ss, ds => ∃ d r, ds = d :: r ∧ Sh.fits N s d ∧ Sh.fitsL N ss r
end
theorem Sh.fitsL_len {N : Nat} : ∀ {ss : List Sh} {ds : List DV}, Sh.fitsL N ss ds → ds.length = ss.length
  | [], _, h => by simp only [Sh.fitsL] at h; subst h; rfl
  | s :: ss, ds, h => by
    simp only [Sh.fitsL] at h
    obtain ⟨d, r, rfl, _, h⟩ := h
    simp [Sh.fitsL_len h]
theorem Sh.fitsL_append {N : Nat} : ∀ {ss ts : List Sh} {ds es : List DV}, Sh.fitsL N ss ds → Sh.fitsL N ts es → Sh.fitsL N (ss ++ ts) (ds ++ es)
  | [], _, _, _, h, k => by simp only [Sh.fitsL] at h; subst h; simpa using k
  | s :: ss, ts, ds, es, h, k => by
    simp only [Sh.fitsL] at h
    obtain ⟨d, r, rfl, hd, h⟩ := h
    simp only [List.cons_append, Sh.fitsL]
    exact ⟨d, r ++ es, rfl, hd, Sh.fitsL_append h k⟩
def shapesF (P : Program) (g : TypeId → Option (List Sh)) : List Field → Nat → Option (List Sh)
  | [], _ => some []
  | f :: fs, o => if f.offset = o then (g f.type).bind fun r => if P.cellsOf f.type = r.length then (shapesF P g fs (o + r.length)).map fun s => r ++ s else none else none
def shapes (P : Program) : Nat → TypeId → Option (List Sh)
  | 0, _ => none
  | n + 1, t => match P.underlying t with
    | some .bool => some [.bool]
    | some (.int k) => some [.int k]
    | some (.slice e) => (shapes P n e).bind fun r => if P.cellsOf e = r.length ∧ 0 < r.length then some [.sl r] else none
    | some (.struct fs) => (shapesF P (shapes P n) fs.toList 0).bind fun r => if P.cellsOf t = r.length then some r else none
    | _ => none
structure BulkOk {H : Type} (b : DataW H → Nat) : Prop where
  slice : ∀ elems spare, elems.length ≤ b (.slice elems spare)
  elem : ∀ elems spare, ∀ d ∈ elems, b d ≤ b (.slice elems spare)
  part : ∀ parts, ∀ d ∈ parts, b d ≤ b (.agg parts)
def Reads (w : World) (ds : List DV) (cs : List Value) : Prop :=
  ∀ (i : Nat) d v, ds[i]? = some d → cs[i]? = some v → v.oneCell' = true ∧ DRel w (fun _ => False) d v
section
variable {H : Type} {enc : TypeId × Value → H} {P : Program} {w : World} {sp : Nat → Bool} {held : Bool}
theorem readF {b : DataW H → Nat} {N : Nat} {g : TypeId → Option (List Sh)} {m : Nat} {cs : List Value}
    (hg : ∀ (t : TypeId) sh, g t = some sh → ∀ cs d ps, DataW.trod enc P w 0 sp held m t cs = some (d, ps) → b d ≤ N → cs.length = sh.length ∧ ∃ ds, Sh.fitsL N sh ds ∧ Reads w ds cs) :
    ∀ (fs : List Field) (xs : List (DataW H × List MemPlace)) (o : Nat) (sh : List Sh), shapesF P g fs o = some sh → xs.length = fs.length →
      (∀ (i : Nat) (f : Field), fs[i]? = some f → DataW.trod enc P w 0 sp held m f.type ((cs.drop f.offset).take (P.cellsOf f.type)) = xs[i]?) → (∀ x ∈ xs, b x.1 ≤ N) →
      ∃ ds, Sh.fitsL N sh ds ∧ Reads w ds (cs.drop o)
  | [], xs, o, sh, h, hl, _, _ => by
    simp only [shapesF, Option.some.injEq] at h
    subst h
    exact ⟨[], by simp [Sh.fitsL], fun i d v h => by simp at h⟩
  | f :: fs, xs, o, sh, h, hl, hx, hb => by
    simp only [shapesF] at h
    split at h
    case isFalse => cases h
    case isTrue ho =>
    obtain ⟨r, hr, h⟩ := Option.bind_eq_some_iff.1 h
    split at h
    case isFalse => cases h
    case isTrue hc =>
    obtain ⟨s, hs, rfl⟩ := Option.map_eq_some_iff.1 h
    cases xs with
    | nil => simp at hl
    | cons x xs =>
      have h0 := hx 0 f rfl
      rw [List.getElem?_cons_zero] at h0
      obtain ⟨hlen, ds, hf, hd⟩ := hg _ _ hr _ x.1 x.2 h0 (hb x (by simp))
      obtain ⟨es, he, hd'⟩ := readF hg fs xs (o + r.length) s hs (by simpa using hl) (fun i f' hf' => by simpa using hx (i + 1) f' (by simpa using hf')) (fun y hy => hb y (by simp [hy]))
      have hdl := Sh.fitsL_len hf
      refine ⟨ds ++ es, Sh.fitsL_append hf he, fun i d v h1 h2 => ?_⟩
      rw [List.getElem?_drop] at h2
      rcases Nat.lt_or_ge i ds.length with hi | hi
      · rw [List.getElem?_append_left hi] at h1
        refine hd i d v h1 ?_
        rw [List.getElem?_take, List.getElem?_drop, ho, if_pos (by omega), h2]
      · rw [List.getElem?_append_right hi] at h1
        refine hd' (i - ds.length) d v h1 ?_
        rw [List.getElem?_drop]
        rw [show o + r.length + (i - ds.length) = o + i from by omega, h2]
theorem cells_get {w : World} {a : Addr} {n : Nat} {cs : List Value} (h : w.cells? 0 a n = some cs) : cs.length = n ∧ ∀ j, j < n → w.cell? (a.add j) = cs[j]? := by
  simp only [World.cells?, Nat.zero_le, if_true] at h
  exact ⟨by simpa using mapM_some_length h, fun j hj => mapM_some_get h j j (by simp [hj])⟩
theorem cell_spot {w : World} {a : Addr} {v : Value} (h : w.cell? a = some v) : a.spot = none := by
  unfold World.cell? at h
  split at h
  · split at h
    · cases h
    · cases hs : a.spot <;> simp_all
  · cases h
theorem z172 {b : DataW H → Nat} (hb : BulkOk b) (N : Nat) : ∀ (n : Nat) (t : TypeId) (sh : List Sh), shapes P n t = some sh → ∀ fuel cs d ps, DataW.trod enc P w 0 sp held fuel t cs = some (d, ps) → b d ≤ N →
    cs.length = sh.length ∧ ∃ ds, Sh.fitsL N sh ds ∧ Reads w ds cs
  | 0, _, _, h => by simp [shapes] at h
  | n + 1, t, sh, h => by
    intro fuel cs d ps hd hN
    unfold shapes at h
    split at h
    case h_1 ht =>
      cases h
      obtain ⟨v, rfl, _⟩ := DataW.trod_bool ht hd
      refine ⟨rfl, [.bool v], ?_, ?_⟩
      · simp [Sh.fitsL, Sh.fits]
      · intro i d' v' h1 h2
        cases i with
        | zero => simp only [List.getElem?_cons_zero, Option.some.injEq] at h1 h2; subst h1; subst h2; exact ⟨rfl, .bool _⟩
        | succ i => simp at h1
    case h_2 k ht =>
      cases h
      obtain ⟨v, rfl, _, hw⟩ := DataW.trod_int ht hd
      refine ⟨rfl, [.int k v], ?_, ?_⟩
      · simpa [Sh.fitsL, Sh.fits] using hw
      · intro i d' v' h1 h2
        cases i with
        | zero => simp only [List.getElem?_cons_zero, Option.some.injEq] at h1 h2; subst h1; subst h2; exact ⟨rfl, .int _ _⟩
        | succ i => simp at h1
    case h_3 e ht =>
      obtain ⟨r, hr, h⟩ := Option.bind_eq_some_iff.1 h
      split at h
      case isFalse => cases h
      case isTrue hc =>
      obtain ⟨hc, hp⟩ := hc
      cases h
      rcases DataW.trod_slice ht hd with ⟨rfl, _⟩ | ⟨a, len, cap, elems, rest, m, rfl, rfl, hx, _, hcap, _, hl, hel, _⟩
      · refine ⟨rfl, [.sl []], ?_, ?_⟩
        · simp [Sh.fitsL, Sh.fits]
        · intro i d' v' h1 h2
          cases i with
          | zero => simp only [List.getElem?_cons_zero, Option.some.injEq] at h1 h2; subst h1; subst h2; exact ⟨rfl, .slNil⟩
          | succ i => simp at h1
      · obtain rfl : d = .slice (elems.map (·.1)) (rest.map (·.1)) := congrArg Prod.fst hx
        have hrow : ∀ i : Nat, ∃ ds : List DV, i < len → Sh.fitsL N r ds ∧ ∀ j d, ds[j]? = some d → ∃ v, w.cell? (a.add (i * r.length) |>.add j) = some v ∧ v.oneCell' = true ∧ DRel w (fun _ => False) d v := by
          intro i
          by_cases hi : i < len
          · have h1 := hel i hi
            rw [List.getElem?_eq_getElem (by omega)] at h1
            obtain ⟨cs', hcs, htr⟩ := Option.bind_eq_some_iff.1 h1
            have hin : (elems[i]'(by omega)).1 ∈ elems.map (·.1) := List.mem_map.2 ⟨_, List.getElem_mem _, rfl⟩
            obtain ⟨hlen, ds, hf, hds⟩ := z172 hb N n e r hr m cs' (elems[i]'(by omega)).1 (elems[i]'(by omega)).2 htr (Nat.le_trans (hb.elem _ _ _ hin) hN)
            refine ⟨ds, fun _ => ⟨hf, fun j d hj => ?_⟩⟩
            have hjl : j < ds.length := by
              rcases Nat.lt_or_ge j ds.length with h | h
              · exact h
              · rw [List.getElem?_eq_none h] at hj; cases hj
            rw [Sh.fitsL_len hf] at hjl
            have hcell := (cells_get hcs).2 j (by omega)
            rw [hc] at hcell
            have hv : cs'[j]? = some (cs'[j]'(by omega)) := List.getElem?_eq_getElem _
            rw [hv] at hcell
            exact ⟨_, hcell, hds j d _ hj hv⟩
          · exact ⟨[], fun h => absurd h hi⟩
        have hcho := Classical.axiomOfChoice hrow
        obtain ⟨F, hF⟩ := hcho
        have hrl : ((List.range len).map F).length = len := by simp
        refine ⟨rfl, [.sl ((List.range len).map F)], ?_, ?_⟩
        · simp only [Sh.fitsL, Sh.fits]
          refine ⟨_, _, rfl, ⟨_, rfl, ?_, ?_⟩, rfl⟩
          · rw [hrl]
            have := hb.slice (elems.map (·.1)) (rest.map (·.1))
            simp only [List.length_map] at this
            omega
          · intro row hrow
            obtain ⟨i, hi, rfl⟩ := List.mem_map.1 hrow
            exact (hF i (by simpa using hi)).1
        · intro i d' v' h1 h2
          cases i with
          | succ i => simp at h1
          | zero =>
            simp only [List.getElem?_cons_zero, Option.some.injEq] at h1 h2
            subst h1; subst h2
            refine ⟨rfl, ?_⟩
            cases hlen : len with
            | zero => exact .slEmpty _ _
            | succ l =>
              have hspot : a.spot = none := by
                have h0 := hF 0 (by omega)
                have hfl := Sh.fitsL_len h0.1
                obtain ⟨v, hv, _⟩ := h0.2 0 ((F 0)[0]'(by omega)) (List.getElem?_eq_getElem _)
                simp only [Nat.zero_mul, Addr.add, if_true] at hv
                exact cell_spot hv
              obtain ⟨blk, off, spot⟩ := a
              simp only at hspot
              subst hspot
              have hadd : ∀ i j, (Addr.add (Addr.add ⟨blk, off, none⟩ (i * r.length)) j) = ⟨blk, off + i * r.length + j, none⟩ := by
                intro i j
                unfold Addr.add
                by_cases h1 : i * r.length = 0 <;> by_cases h2 : j = 0 <;> simp [h1, h2]
              have hall : ∀ (i : Nat) (r' : List DV) (j : Nat) (d : DV), ((List.range len).map F)[i]? = some r' → r'[j]? = some d → ∃ v, w.cell? ⟨blk, off + i * r.length + j, none⟩ = some v ∧ v.oneCell' = true ∧ DRel w (fun _ => False) d v := by
                intro i r' j d h1 h2
                rw [List.getElem?_map] at h1
                obtain ⟨i', hi', rfl⟩ := Option.map_eq_some_iff.1 h1
                obtain ⟨hil, rfl⟩ := List.getElem?_eq_some_iff.1 hi'
                simp only [List.length_range] at hil
                simp only [List.getElem_range] at h2
                obtain ⟨v, hv, h3, h4⟩ := (hF i hil).2 j d h2
                rw [hadd] at hv
                exact ⟨v, hv, h3, h4⟩
              have hfin := DRel.sl (w := w) (own := fun _ => False) ((List.range len).map F) blk off r.length cap (fun i j => (w.cell? ⟨blk, off + i * r.length + j, none⟩).getD .nilFunc) (by rw [hrl]; exact hcap)
                (by
                  intro row hrow
                  obtain ⟨i, hi, rfl⟩ := List.mem_map.1 hrow
                  exact Sh.fitsL_len (hF i (by simpa using hi)).1)
                (by
                  intro i r' j d h1 h2
                  obtain ⟨v, hv, h3, _⟩ := hall i r' j d h1 h2
                  rw [hv]
                  exact ⟨fun h => h, rfl, h3⟩)
                (by
                  intro i r' j d h1 h2
                  obtain ⟨v, hv, _, h4⟩ := hall i r' j d h1 h2
                  simp only [hv, Option.getD_some]
                  exact h4)
              rw [hrl] at hfin
              rw [hlen] at hfin
              exact hfin
    case h_4 fs ht =>
      obtain ⟨r, hr, h⟩ := Option.bind_eq_some_iff.1 h
      split at h
      case isFalse => cases h
      case isTrue hc =>
      cases h
      obtain ⟨xs, m, rfl, hx, hl, hxl, hi⟩ := DataW.trod_struct ht hd
      obtain rfl : d = .agg (xs.map (·.1)) := congrArg Prod.fst hx
      obtain ⟨ds, hf, hds⟩ := readF (fun t sh h cs d ps hd hN => z172 hb N n t sh h m cs d ps hd hN) fs.toList xs 0 sh hr (by simpa using hxl) (fun i f hf => hi i f (by simpa using hf))
        (fun x hx => Nat.le_trans (hb.part _ _ (List.mem_map.2 ⟨x, hx, rfl⟩)) hN)
      exact ⟨by omega, ds, hf, by simpa using hds⟩
    case h_5 => cases h
end
end Go.Ab
/- The link from a walked contract to a statement's contract, for arguments of any number and of the types that the statements take; where what is read is of bulk at most the bound. -/
namespace Go.Ab
open Go.RowKit Go.Proofs Go.ChangeShapes Go.WideShapes Go.Proofs.YtgjnckiifffneaaGreat
set_option linter.unusedVariables false
set_option maxRecDepth 100000
section
variable {H : Type} {enc : TypeId × Value → H} {P : Program}
theorem post_of_below {f : Func} {s : ChangeSpec} {apart fresh handsOn again : Bool} {W W' : World} {args : Array Value} {v : Value} {ds gs : List (DataW H)} {before pa pv : List MemPlace}
    (hW : DataW.Whole enc P f.params.toList s.vars apart W args.toList ds gs before)
    (hres : ∀ (b : Nat) (sp : Nat → Bool) (hd : Bool), DataW.TrodAll enc P W' b sp hd f.resultTypes.toList (v.resultList f.resultTypes.size) (s.fn H (ds ++ gs)).results [])
    (hargs : ∀ sp : Nat → Bool, (∀ p ∈ before, sp p.block = true) → DataW.TrodAll enc P W' 0 sp true f.params.toList args.toList (s.fn H (ds ++ gs)).args pa)
    (hvars : ∀ sp : Nat → Bool, (∀ p ∈ before, sp p.block = true) → DataW.TrodVars enc P W' sp s.vars (s.fn H (ds ++ gs)).vars pv)
    (hps : before = pa ++ pv) (hb : Below W.heap.size W W')
    (hok : ∀ (j : Nat) (t : TypeId) (r : Value), f.resultTypes[j]? = some t → (v.resultList f.resultTypes.size)[j]? = some r → Value.okWide P W' .any 0 t r) :
    s.post enc P f apart fresh handsOn again W args v W' := by
  have hlt := hW.lt
  have hold : ∀ p ∈ before, (fun b => decide (b < W.heap.size)) p.block = true := fun p hp => by simpa using hlt p hp
  refine ⟨ds, gs, before, [], pa, pv, hW, hres _ _ _, hargs _ hold, hvars _ hold, World.keptBut_mono (fun p hp => ⟨hp, ?_⟩) (hb.frame (· ∈ before)), fun _ => ?_⟩
  · rw [hps, List.mem_append] at hp
    exact Or.inr hp
  · obtain ⟨_, _, _, _, _, hz, hn⟩ := hW
    refine ⟨hok, _, _, ([] ++ pa) ++ pv, ⟨[] ++ pa, pv, trodAll_append (hargs _ (fun _ _ => rfl)) (hres _ _ _), hvars _ (fun _ _ => rfl), rfl, ?_, ?_⟩, ?_⟩
    · intro b off hp
      have hp' : MemPlace.cell b off ∈ before := by rw [hps]; simpa using hp
      rw [hb.frozen (p := ⟨b, off, none⟩) (hlt _ hp')]
      exact hz b off hp'
    · intro ha
      have := hn ha
      rw [hps] at this
      simpa using this
    · intro p hp _
      rw [hps]
      simpa using hp
end
theorem z96 {α : Type} {row : α → List DV} {Q : α → Prop} : ∀ {rows : List (List DV)}, (∀ r ∈ rows, ∃ a, r = row a ∧ Q a) → ∃ l : List α, rows = l.map row ∧ ∀ a ∈ l, Q a
  | [], _ => ⟨[], rfl, fun _ h => by cases h⟩
  | r :: rs, h => by
    obtain ⟨a, rfl, ha⟩ := h r (by simp)
    obtain ⟨l, rfl, hl⟩ := z96 (rows := rs) (fun r hr => h r (by simp [hr]))
    exact ⟨a :: l, rfl, fun b hb => by rcases List.mem_cons.1 hb with rfl | hb; exact ha; exact hl b hb⟩
def iS : Sh := .int .i64
def hourS : List Sh := [iS, iS, iS, iS, iS, iS]
def skyS : List Sh := [iS, iS, iS]
def sightS : List Sh := [iS, iS, iS, iS]
def carrS : List Sh := [iS, iS, iS, iS, iS, iS, iS]
def suppS : List Sh := [.sl [.sl hourS], .sl sightS, iS, iS, iS, iS, iS, .sl carrS]
theorem int_of {N : Nat} {r : List DV} (h : Sh.fitsL N [iS] r) : ∃ s : Int, r = [.i s] ∧ True := by
  simp only [iS, Sh.fitsL, Sh.fits] at h
  obtain ⟨_, _, rfl, ⟨a, rfl, _⟩, rfl⟩ := h
  exact ⟨a, rfl, trivial⟩
theorem hour_of {N : Nat} {r : List DV} (h : Sh.fitsL N hourS r) : ∃ s : Hour, r = s.row ∧ True := by
  simp only [hourS, iS, Sh.fitsL, Sh.fits] at h
  obtain ⟨_, _, rfl, ⟨a, rfl, _⟩, _, _, rfl, ⟨b, rfl, _⟩, _, _, rfl, ⟨c, rfl, _⟩, _, _, rfl, ⟨d, rfl, _⟩, _, _, rfl, ⟨e, rfl, _⟩, _, _, rfl, ⟨f, rfl, _⟩, rfl⟩ := h
  exact ⟨⟨⟨a, b⟩, ⟨c, d⟩, ⟨e, f⟩⟩, rfl, trivial⟩
theorem sight_of {N : Nat} {r : List DV} (h : Sh.fitsL N sightS r) : ∃ s : Sight, r = s.row ∧ True := by
  simp only [sightS, iS, Sh.fitsL, Sh.fits] at h
  obtain ⟨_, _, rfl, ⟨d, rfl, _⟩, _, _, rfl, ⟨a, rfl, _⟩, _, _, rfl, ⟨b, rfl, _⟩, _, _, rfl, ⟨c, rfl, _⟩, rfl⟩ := h
  exact ⟨⟨d, ⟨a, b, c⟩⟩, rfl, trivial⟩
theorem ints_of {N : Nat} {d : DV} (h : Sh.fits N (.sl [iS]) d) : ∃ l : List Int, d = .sl (intRows l) ∧ l.length ≤ N := by
  simp only [Sh.fits] at h
  obtain ⟨rows, rfl, hl, hr⟩ := h
  obtain ⟨l, rfl, _⟩ := z96 (fun r h => int_of (hr r h))
  exact ⟨l, rfl, by simpa using hl⟩
theorem sights_of {N : Nat} {d : DV} (h : Sh.fits N (.sl sightS) d) : ∃ l : List Sight, d = .sl (sightRows l) ∧ l.length ≤ N := by
  simp only [Sh.fits] at h
  obtain ⟨rows, rfl, hl, hr⟩ := h
  obtain ⟨l, rfl, _⟩ := z96 (fun r h => sight_of (hr r h))
  exact ⟨l, rfl, by simpa using hl⟩
theorem hours_of {N : Nat} {r : List DV} (h : Sh.fitsL N [.sl hourS] r) : ∃ l : List Hour, r = [.sl (hourRows l)] ∧ l.length ≤ N := by
  simp only [Sh.fitsL] at h
  obtain ⟨d, _, rfl, h, rfl⟩ := h
  simp only [Sh.fits] at h
  obtain ⟨rows, rfl, hl, hr⟩ := h
  obtain ⟨l, rfl, _⟩ := z96 (fun r h => hour_of (hr r h))
  exact ⟨l, rfl, by simpa using hl⟩
theorem scens_of {N : Nat} {d : DV} (h : Sh.fits N (.sl [.sl hourS]) d) : ∃ F : List (List Hour), d = .sl (scenRows F) ∧ F.length ≤ N ∧ ∀ l ∈ F, l.length ≤ N := by
  simp only [Sh.fits] at h
  obtain ⟨rows, rfl, hl, hr⟩ := h
  obtain ⟨F, rfl, hF⟩ := z96 (row := fun l : List Hour => [DV.sl (hourRows l)]) (fun r h => hours_of (hr r h))
  exact ⟨F, rfl, by simpa using hl, hF⟩
theorem carr_of {N : Nat} {r : List DV} (h : Sh.fitsL N carrS r) : ∃ s : Carrier, r = s.row ∧ True := by
  simp only [carrS, iS, Sh.fitsL, Sh.fits] at h
  obtain ⟨_, _, rfl, ⟨a, rfl, _⟩, _, _, rfl, ⟨b, rfl, _⟩, _, _, rfl, ⟨c, rfl, _⟩, _, _, rfl, ⟨d, rfl, _⟩, _, _, rfl, ⟨e, rfl, _⟩, _, _, rfl, ⟨f, rfl, _⟩, _, _, rfl, ⟨g, rfl, _⟩, rfl⟩ := h
  exact ⟨⟨a, b, c, ⟨d, e, ⟨f, g⟩⟩⟩, rfl, trivial⟩
theorem carrs_of {N : Nat} {d : DV} (h : Sh.fits N (.sl carrS) d) : ∃ l : List Carrier, d = .sl (carrRows l) ∧ l.length ≤ N := by
  simp only [Sh.fits] at h
  obtain ⟨rows, rfl, hl, hr⟩ := h
  obtain ⟨l, rfl, _⟩ := z96 (fun r h => carr_of (hr r h))
  exact ⟨l, rfl, by simpa using hl⟩
theorem supp_of {N : Nat} (hN : N < 2 ^ 29) {r : List DV} (h : Sh.fitsL N suppS r) : ∃ p : Supply, r = p.cells ∧ SuppSmall p ∧ p.seen.length + 1 < 2 ^ 30 := by
  unfold suppS at h
  rw [Sh.fitsL] at h
  obtain ⟨x0, _, rfl, h0, h⟩ := h
  rw [Sh.fitsL] at h
  obtain ⟨x1, _, rfl, h1, h⟩ := h
  obtain ⟨F, rfl, zf1, zf2⟩ := scens_of h0
  obtain ⟨S, rfl, s1⟩ := sights_of h1
  rw [Sh.fitsL] at h
  obtain ⟨y1, _, rfl, k1, h⟩ := h
  rw [Sh.fitsL] at h
  obtain ⟨y2, _, rfl, k2, h⟩ := h
  rw [Sh.fitsL] at h
  obtain ⟨y3, _, rfl, k3, h⟩ := h
  rw [Sh.fitsL] at h
  obtain ⟨y4, _, rfl, k4, h⟩ := h
  rw [Sh.fitsL] at h
  obtain ⟨y5, _, rfl, k5, h⟩ := h
  rw [Sh.fitsL] at h
  obtain ⟨y6, _, rfl, k6, h⟩ := h
  rw [Sh.fitsL] at h
  subst h
  obtain ⟨D, rfl, d1⟩ := carrs_of k6
  simp only [iS, Sh.fits] at k1 k2 k3 k4 k5
  obtain ⟨a1, rfl, _⟩ := k1
  obtain ⟨a2, rfl, _⟩ := k2
  obtain ⟨a3, rfl, _⟩ := k3
  obtain ⟨a4, rfl, _⟩ := k4
  obtain ⟨a5, rfl, _⟩ := k5
  refine ⟨⟨F, S, a1, a2, a3, ⟨a4, a5⟩, D⟩, rfl, ⟨⟨?_, fun l hl => ?_⟩, ?_, ?_⟩, ?_⟩
  · show F.length < 2 ^ 30
    omega
  · have := zf2 l hl
    omega
  · show S.length < 2 ^ 30
    omega
  · show D.length < 2 ^ 30
    omega
  · show S.length + 1 < 2 ^ 30
    omega
theorem bulk_mem {H : Type} : ∀ {l : List (DataW H)} {d : DataW H}, d ∈ l → Rows.uptoBulk d ≤ Rows.uptoBulkAll l
  | x :: r, d, h => by
    simp only [Rows.uptoBulkAll]
    rcases List.mem_cons.1 h with rfl | h
    · omega
    · have := bulk_mem h
      omega
theorem bulk_pos {H : Type} (d : DataW H) : 1 ≤ Rows.uptoBulk d := by
  cases d with
  | lit l => cases l <;> simp [Rows.uptoBulk]
  | _ => simp [Rows.uptoBulk]
theorem bulk_len {H : Type} : ∀ (l : List (DataW H)), l.length ≤ Rows.uptoBulkAll l
  | [] => by simp
  | x :: r => by
    have h1 := bulk_pos x
    have h2 := bulk_len r
    simp only [Rows.uptoBulkAll, List.length_cons]
    omega
theorem bulkOk {H : Type} : BulkOk (Rows.uptoBulk (H := H)) where
  slice := fun elems spare => by
    have := bulk_len elems
    simp only [Rows.uptoBulk]
    omega
  elem := fun elems spare d hd => by
    have := bulk_mem hd
    simp only [Rows.uptoBulk]
    omega
  part := fun parts d hd => by
    have := bulk_mem hd
    simp only [Rows.uptoBulk]
    omega
structure Rd (t : TypeId) (C : DV → Prop) : Prop where
  rec' : Tryz.prog.readableRec t = true
  lt : t < Tryz.prog.types.size
  read : ∀ (H : Type) (enc : TypeId × Value → H) (w : World) (base : Nat) (v : Value) (d : DataW H) (ps : List MemPlace), Value.okWide Tryz.prog w .any base t v → DataW.Trod enc Tryz.prog w 0 (fun _ => true) true t v d ps → Rows.uptoBulk d ≤ 1048576 → ∃ x, C x ∧ DRel w (fun _ => False) x v
theorem agg_read {H : Type} {enc : TypeId × Value → H} {w : World} {t : TypeId} {sh : List Sh} (hs : shapes Tryz.prog 20 t = some sh) (h2 : 2 ≤ sh.length) {v : Value} {d : DataW H} {ps : List MemPlace}
    (h : DataW.Trod enc Tryz.prog w 0 (fun _ => true) true t v d ps) (hd : Rows.uptoBulk d ≤ 1048576) :
    ∃ ds, Sh.fitsL 1048576 sh ds ∧ DRel w (fun _ => False) (.agg ds) v := by
  obtain ⟨fuel, h⟩ := h
  obtain ⟨hl, ds, hf, hr⟩ := z172 bulkOk 1048576 20 t sh hs fuel _ _ _ h hd
  have hdl := Sh.fitsL_len hf
  refine ⟨ds, hf, ?_⟩
  cases v with
  | agg cs =>
    simp only [Value.cells] at hl hr
    exact .agg _ _ (by simpa [hdl] using hl.symm) fun i d v h1 h2 => (hr i d v h1 (by simpa using h2)).2
  | _ => simp [Value.cells] at hl; omega
theorem one_read {H : Type} {enc : TypeId × Value → H} {w : World} {t : TypeId} {s : Sh} (hs : shapes Tryz.prog 20 t = some [s]) {v : Value} {d : DataW H} {ps : List MemPlace}
    (hv : v.cells.toList = [v]) (h : DataW.Trod enc Tryz.prog w 0 (fun _ => true) true t v d ps) (hd : Rows.uptoBulk d ≤ 1048576) :
    ∃ x, Sh.fits 1048576 s x ∧ DRel w (fun _ => False) x v := by
  obtain ⟨fuel, h⟩ := h
  obtain ⟨hl, ds, hf, hr⟩ := z172 bulkOk 1048576 20 t _ hs fuel _ _ _ h hd
  simp only [Sh.fitsL] at hf
  obtain ⟨x, _, rfl, hx, rfl⟩ := hf
  exact ⟨x, hx, (hr 0 x v rfl (by rw [hv]; rfl)).2⟩
def AllC : List (TypeId × (DV → Prop)) → List DV → Prop
  | [], [] => True
  | c :: cs, x :: xs => c.2 x ∧ AllC cs xs
  | _, _ => False
section
variable {H : Type} {enc : TypeId × Value → H} {W : World}
theorem read_all {base : Nat} : ∀ (L : List (TypeId × (DV → Prop))), (∀ c ∈ L, Rd c.1 c.2) → ∀ (vs : List Value) (ds : List (DataW H)) (ps : List MemPlace),
    (∀ (j : Nat) t v, (L.map (·.1))[j]? = some t → vs[j]? = some v → Value.okWide Tryz.prog W .any base t v) →
    DataW.TrodAll enc Tryz.prog W 0 (fun _ => true) true (L.map (·.1)) vs ds ps → Rows.uptoBulkAll ds ≤ 1048576 →
    vs.length = L.length ∧ ds.length = L.length ∧ ∃ xs, AllC L xs ∧ xs.length = L.length ∧ ∀ (i : Nat) x v, xs[i]? = some x → vs[i]? = some v → DRel W (fun _ => False) x v
  | [], _, vs, ds, ps, _, h, _ => by
    obtain ⟨rfl, rfl, rfl⟩ := trodAll_nil h
    exact ⟨rfl, rfl, [], trivial, rfl, fun i x v h => by simp at h⟩
  | c :: L, hc, vs, ds, ps, hval, h, hb => by
    obtain ⟨v, vs', d, ds', p, q, rfl, rfl, rfl, hd, hrest⟩ := trodAll_cons h
    simp only [Rows.uptoBulkAll] at hb
    obtain ⟨x, hx, hr⟩ := (hc c (by simp)).read H enc W base v d p (hval 0 _ v (by simp) (by simp)) hd (by omega)
    obtain ⟨h1, h2, xs, h3, h4, h5⟩ := read_all L (fun c h => hc c (by simp [h])) vs' ds' q (fun j t v h1 h2 => hval (j + 1) t v (by simpa using h1) (by simpa using h2)) hrest (by omega)
    refine ⟨by simp [h1], by simp [h2], x :: xs, ⟨hx, h3⟩, by simp [h4], fun i y w hy hw => ?_⟩
    cases i with
    | zero =>
      simp at hy hw
      subst hy
      subst hw
      exact hr
    | succ i => exact h5 i y w (by simpa using hy) (by simpa using hw)
theorem stay_all {W' : World} {sp : Nat → Bool} : ∀ (L : List (TypeId × (DV → Prop))), (∀ c ∈ L, Rd c.1 c.2) → ∀ (vs : List Value) (ds : List (DataW H)) (ps : List MemPlace),
    DataW.TrodAll enc Tryz.prog W 0 (fun _ => true) true (L.map (·.1)) vs ds ps → (∀ y ∈ ps, y.block < W.heap.size) → Below W.heap.size W W' → (∀ y ∈ ps, sp y.block = true) →
    DataW.TrodAll enc Tryz.prog W' 0 sp true (L.map (·.1)) vs ds ps
  | [], _, vs, ds, ps, h, _, _, _ => by
    obtain ⟨rfl, rfl, rfl⟩ := trodAll_nil h
    exact trodAll_mk0
  | c :: L, hc, vs, ds, ps, h, hlt, hb, hsp => by
    obtain ⟨v, vs', d, ds', p, q, rfl, rfl, rfl, hd, hrest⟩ := trodAll_cons h
    have hrd := hc c (by simp)
    exact ⟨p, q, WideElems.Trod_stays (by kernel_rfl) hrd.rec' hrd.lt hd (fun y hy => hb.same (hlt y (by simp [hy]))) (fun y hy => hsp y (by simp [hy])),
      stay_all L (fun c h => hc c (by simp [h])) vs' ds' q hrest (fun y hy => hlt y (by simp [hy])) hb (fun y hy => hsp y (by simp [hy])), rfl⟩
end
theorem link {f : FuncId} {fn : Func} (L : List (TypeId × (DV → Prop))) (hL : ∀ c ∈ L, Rd c.1 c.2) (hf : ∀ xs, AllC L xs → Fn Tryz.prog f xs (.bool true)) (hfn : fn.params = (L.map (·.1)).toArray) (hr : fn.resultTypes = #[4])
    (s : ChangeSpec) (hv : s.vars = []) (hs : ∀ (H : Type) (ds : List (DataW H)), ds.length = L.length → s.fn H ds = { results := [.lit (.bool true)], args := ds })
    {H : Type} {enc : TypeId × Value → H} {W : World} {args : Array Value} {ds gs : List (DataW H)} {before : List MemPlace}
    {base : Nat} (hval : ∀ (j : Nat) t v, fn.params[j]? = some t → args[j]? = some v → Value.okWide Tryz.prog W .any base t v)
    (hW : DataW.Whole enc Tryz.prog fn.params.toList s.vars false W args.toList ds gs before) (hk : Rows.uptoSmall H (ds ++ gs) = true) :
    Calls Tryz.prog f args W fun e W' => ∃ v, e = .returned v ∧ s.post enc Tryz.prog fn false true false false W args v W' := by
  have hW' := hW
  obtain ⟨p, q, hA, hV, rfl, hfz, hnd⟩ := hW
  rw [hfn] at hA
  rw [hv] at hV
  obtain ⟨rfl, rfl⟩ := trodVars_none hV
  have hb := of_decide_eq_true hk
  simp only [List.append_nil] at hb
  obtain ⟨l1, l2, xs, hxs, l3, hrel⟩ := read_all (base := base) L hL _ _ _ (fun j t v h1 h2 => hval j t v (by rw [hfn]; simpa using h1) (by simpa using h2)) hA hb
  have hc := (hf xs hxs).2 W (fun _ => False) args (fun _ h => h.elim) (Hid.no (by kernel_rfl)) ⟨by rw [l3, ← l1]; simp, fun i x v h1 h2 => hrel i x v h1 (by simpa using h2)⟩
  refine hc.mono fun e W' h => ?_
  obtain ⟨v, rfl, hvr, hbel⟩ := h
  cases hvr
  refine ⟨_, rfl, ?_⟩
  have hlt : ∀ y ∈ p, y.block < W.heap.size := fun y hy => hW'.lt y (by simpa using hy)
  have hok : Value.okWide Tryz.prog W' .any 0 4 (.bool true) := okWide_bool_mk (t := 4) Tryz.underlying4 true
  have hsf : s.fn H (ds ++ []) = { results := [.lit (.bool true)], args := ds } := by rw [List.append_nil]; exact hs H ds l2
  refine post_of_below (pa := p) (pv := []) hW' ?_ ?_ ?_ (by simp) hbel ?_
  · intro b sp hd
    rw [hr, hsf]
    exact trodAll_mk1 (shut_bool Tryz.underlying4 _)
  · intro sp hsp
    rw [hfn, hsf]
    exact stay_all L hL _ _ _ hA hlt hbel (fun y hy => hsp y (by simpa using hy))
  · intro sp hsp
    rw [hv, hsf]
    rfl
  · exact ok_one hr rfl hok
abbrev aS : TypeId × (DV → Prop) := (39, fun x => ∃ p : Supply, x = .agg p.cells ∧ SuppSmall p ∧ p.seen.length + 1 < 2 ^ 30)
abbrev aU : TypeId × (DV → Prop) := (22, fun x => ∃ l : List Int, x = .sl (intRows l) ∧ l.length < 2 ^ 30)
abbrev aI : TypeId × (DV → Prop) := (3, fun x => ∃ n : Int, x = .i n)
theorem allC3 {c d e : TypeId × (DV → Prop)} {xs : List DV} (h : AllC [c, d, e] xs) : ∃ x y z, xs = [x, y, z] ∧ c.2 x ∧ d.2 y ∧ e.2 z := by
  match xs, h with
  | [x, y, z], h => exact ⟨x, y, z, rfl, h.1, h.2.1, h.2.2.1⟩
end Go.Ab
namespace Go.Ab
open Go.RowKit Go.Proofs
def tripRows (l : List (Int × Int)) : List (List DV) := l.map fun p => [.i p.1, .i p.2]
end Go.Ab
namespace Go.Ab
open Go.RowKit Go.Proofs
set_option maxHeartbeats 8000000
set_option maxRecDepth 20000
attribute [local irreducible] WalkL Walk
def inSp (l : List Span) (n : Nat) : Bool := l.any fun s => withinB n s.lo s.hi
def rowQ (f : Nat → Int) (H : Nat) (q : Nat → Bool) : List Int := (List.range H).map fun u => if q u then f u else 0
theorem z149 (f : Nat → Int) (H : Nat) (q : Nat → Bool) : (rowQ f H q).length = H := by simp [rowQ]
theorem z91 {f : Nat → Int} {H : Nat} {q q' : Nat → Bool} (h : ∀ u < H, q u = q' u) : rowQ f H q = rowQ f H q' :=
  List.map_congr_left fun u hu => by rw [h u (List.mem_range.1 hu)]
theorem rowQ_none (f : Nat → Int) (H : Nat) : rowQ f H (fun _ => false) = List.replicate H 0 := by
  apply List.ext_getElem <;> simp [rowQ]
theorem z196 (f : Nat → Int) {H : Nat} (q : Nat → Bool) {t : Nat} (h : t < H) : (rowQ f H q)[t]? = some (if q t then f t else 0) := by
  simp [rowQ, List.getElem?_range h]
theorem rowQ_set (f : Nat → Int) {H : Nat} (q : Nat → Bool) {t : Nat} (h : t < H) : (rowQ f H q).set t (f t) = rowQ f H (fun u => q u || u == t) := by
  apply List.ext_getElem?
  intro i
  rw [List.getElem?_set]
  by_cases hi : t = i
  · subst hi
    rw [if_pos rfl, z149, if_pos h, z196 f _ h]
    simp
  · rw [if_neg hi]
    by_cases hiH : i < H
    · rw [z196 f _ hiH, z196 f _ hiH]
      have e : (i == t) = false := by have := Ne.symm hi; simpa using this
      rw [e, Bool.or_false]
    · rw [List.getElem?_eq_none (by rw [z149]; omega), List.getElem?_eq_none (by rw [z149]; omega)]
theorem z165 (H : Nat) : List.replicate H [DV.i 0] = intRows (List.replicate H 0) := by simp [intRows]
def heatF (S : List (List Hour)) (t : Nat) : Int := max 0 (hullAll S (t : Int)).temp.hi
def heatL (S : List (List Hour)) (H : Nat) : List Int := rowQ (heatF S) H fun _ => true
def sureC (S : List (List Hour)) (H : Nat) (c : Carrier) : List Span := spansQ (fun i => S.all fun s => alwaysB c.lim (hourAt s (i : Int))) H
def loadOf (S : List (List Hour)) (c : Carrier) (t : Nat) : Int := max 0 (wr (c.lift - wr (c.heat * heatF S t)))
def loadRow (S : List (List Hour)) (H : Nat) (c : Carrier) : List Int := rowQ (loadOf S c) H (inSp (sureC S H c))
def hutRow (s : Supply) (L : List (List Int)) (H : Nat) : List DV := [.sl (scenRows s.scen), .sl (sightRows s.seen), .i s.stock, .i s.reserve, .i s.room, .i s.use.lo, .i s.use.hi, .sl (carrRows s.carr), .sl (listRows L), .i H]
def Supply.scens (s : Supply) : List (List Hour) := scensOf (possL s.scen s.seen)
def Supply.hours (s : Supply) : Nat := (hd0 s.scen).length
def Supply.loads (s : Supply) : List (List Int) := s.carr.map (loadRow s.scens s.hours)
def hutOf (s : Supply) : List DV := hutRow s s.loads s.hours
def openS6 (s : Supply) (told : Bool) : Int := if suppE s = 0 then (if told then 0 else 1) else suppE s
theorem zf42n (row : List DV) : Fn Tryz.prog 72 [.ptr row 0, .sl []] (.bool true) := by
  refine z21 82 Tryz.call72 Tryz.func72 rfl (by decide) fun J => ?_
  simp (maxSteps := 4000000) only [go_sem, St.start, Tryz.ntmps72, Tryz.results72]
  repeat (first | refine z14 ?_ | refine z9 ?_ | refine z7 ?_ | (refine z5 fun K hK => ?_; simp (maxSteps := 4000000) only [go_sem]; refine hK _ ?_; clear hK K) | refine z13 ?_ | refine z15 ?_ | refine z10 ?_ | refine z8 ?_ | refine z6 rfl ?_ | refine z12 ?_ | refine z3 ?_ | refine z16 ?_ | refine z11 ?_ | refine z4 ?_)
  refine z22 (fun (_ : Unit) => [(10, .d (.i 0))]) (fun _ => []) (fun _ => True) (fun _ => 0) () ?_ trivial ?_
  · simp (maxSteps := 4000000) only [go_sem]
    refine z19 [] ?_ ?_ rfl rfl <;> simp [lessT, lessM, lessB, AV.less]
  · intro _ _
    simp (maxSteps := 4000000) only [go_sem]
    repeat (first | refine z14 ?_ | refine z9 ?_ | refine z7 ?_ | (refine z5 fun K hK => ?_; simp (maxSteps := 4000000) only [go_sem]; refine hK _ ?_; clear hK K) | refine z13 ?_ | refine z15 ?_ | refine z10 ?_ | refine z8 ?_ | refine z6 rfl ?_ | refine z12 ?_ | refine z3 ?_ | refine z16 ?_ | refine z11 ?_ | refine z4 ?_)
    refine z17 rfl ?_
    repeat (first | refine z14 ?_ | refine z9 ?_ | refine z7 ?_ | (refine z5 fun K hK => ?_; simp (maxSteps := 4000000) only [go_sem]; refine hK _ ?_; clear hK K) | refine z13 ?_ | refine z15 ?_ | refine z10 ?_ | refine z8 ?_ | refine z6 rfl ?_ | refine z12 ?_ | refine z3 ?_ | refine z16 ?_ | refine z11 ?_ | refine z4 ?_)
    simp (maxSteps := 4000000) only [go_sem]
def openT6 (s : Supply) (ok told : Bool) : Int := if suppE s = 0 then (if ok then (if told then 0 else 1) else 62) else suppE s
theorem zf51g (s : Supply) (T : List (Int × Int)) (ok told : Bool) (hs : SuppSmall s) (h42 : suppE s = 0 → Fn Tryz.prog 72 [.ptr (hutOf s) 0, .sl (tripRows T)] (.bool ok)) :
    Fn Tryz.prog 38 [.agg s.cells, .sl (tripRows T), .bool told] (.tup [if openT6 s ok told = 0 then .ptr (hutOf s) 0 else .nilptr, .i (openT6 s ok told)]) := by
  have h39 := zf69 s hs
  obtain ⟨e, he⟩ : ∃ e, e = suppE s := ⟨_, rfl⟩
  rw [← he] at h39
  rw [← he] at h42
  unfold openT6
  rw [← he]
  rw [Supply.cells] at h39
  have hcl := hs.carr
  refine z21 135 Tryz.call38 Tryz.func38 rfl (by decide) fun J => ?_
  simp (maxSteps := 4000000) only [go_sem, St.start, Tryz.ntmps38, Tryz.results38, Supply.cells]
  by_cases h0 : e = 0
  · rw [if_pos h0]
    have hz : (e != 0) = false := by simp [h0]
    have hlk : lookF s.scen s.seen 0 true = 0 := by
      rw [he, suppE] at h0
      split at h0
      · assumption
      · rename_i hn; exact absurd h0 hn
    obtain ⟨hg, hsi, hpn, _, _⟩ := z152 hlk
    have hF := hg.scen
    have hH := hg.hours
    have h00 : s.scen[0]? = some (hd0 s.scen) := z72 (by omega)
    have g0 := z35 h00
    obtain ⟨H, hHd⟩ : ∃ H, H = (hd0 s.scen).length := ⟨_, rfl⟩
    obtain ⟨S, hS⟩ : ∃ S, S = scensOf (possL s.scen s.seen) := ⟨_, rfl⟩
    have hmk : (H : Int) ≤ 1099511627776 := by omega
    have hlen : (hd0 s.scen).length = H := hHd.symm
    have h40 : ∀ t : Nat, t < H → Fn Tryz.prog 70 [.agg [.sl (scenRows s.scen)], .sl (sightRows s.seen), .i (t : Int)] (.tup [.agg (hullAll S (t : Int)).row, .i 0]) := fun t ht => by
      have h := zf70 s.scen s.seen (t : Int) hs.fore hs.seen
      have hw : withinB (t : Int) 0 ((hd0 s.scen).length - 1) = true := z27.2 (by omega)
      rw [rangeF, hw, if_pos hlk, ← hS] at h
      exact h
    have hrep := z165 H
    have hcarr : ∀ c ∈ s.carr, carrBad c = false := fun c hc => by
      rw [he, suppE, if_pos hlk] at h0
      split at h0
      · exact absurd h0 (by decide)
      · split at h0
        · exact absurd h0 (by decide)
        · rename_i h2
          simp only [carrsBad, Bool.or_eq_true, not_or, Bool.not_eq_true] at h2
          have := h2.2
          rw [List.any_eq_false] at this
          simpa using this c hc
    repeat (first | refine z18 rfl ?_ | refine z17 rfl ?_ | refine z14 ?_ | refine z9 ?_ | refine z7 ?_ | (refine z5 fun K hK => ?_; simp (maxSteps := 4000000) only [go_sem, hz]; (repeat (first | (refine ⟨_, .lent (hf := h39) (hd := rfl) (hr := rfl), ?_⟩; simp (maxSteps := 4000000) only [go_sem, hz]) | (refine ⟨_, .given (hf := h39) (hd := rfl) (ha := rfl), ?_⟩; simp (maxSteps := 4000000) only [go_sem, hz]))); refine hK _ ?_; clear hK K) | refine z13 ?_ | refine z15 ?_ | refine z10 ?_ | refine z8 ?_ | refine z6 rfl ?_ | refine z12 ?_ | refine z3 ?_ | refine z16 ?_ | refine z11 ?_ | refine z4 ?_)
    refine z24 (by kernel_rfl) (by kernel_rfl) fun K hK => ?_
    simp (maxSteps := 4000000) only [go_sem, g0, hlen]
    refine ⟨by kernel_rfl, hK _ ?_⟩
    clear hK K
    repeat (first | refine z14 ?_ | refine z9 ?_ | refine z7 ?_ | (refine z5 fun K hK => ?_; simp (maxSteps := 4000000) only [go_sem, hmk, hrep]; refine hK _ ?_; clear hK K) | refine z13 ?_ | refine z15 ?_ | refine z10 ?_ | refine z8 ?_ | refine z6 rfl ?_ | refine z12 ?_ | refine z3 ?_ | refine z16 ?_ | refine z11 ?_ | refine z4 ?_)
    have hq0 : intRows (List.replicate H 0) = intRows (rowQ (heatF S) H (fun u => decide (u < 0))) := by
      rw [← rowQ_none (heatF S) H, z91 (q' := fun u => decide (u < 0)) (fun u _ => by simp)]
    refine z22 (fun (i : Nat) => [(45, .d (.i i))]) (fun i => [(42, some (.arr 3 1 (intRows (rowQ (heatF S) H (fun u => decide (u < i))))))]) (fun i => i ≤ H) (fun i => H - i) 0 ?_ (Nat.zero_le _) ?_
    · rw [← hq0]
      simp (maxSteps := 4000000) only [go_sem]
      refine z19 [] ?_ ?_ rfl rfl <;> simp [lessT, lessM, lessB, AV.less]
      all_goals first | done | rfl
    · intro i hi
      have hAl := z149 (heatF S) H (fun u => decide (u < i))
      simp (maxSteps := 4000000) only [go_sem]
      repeat (first | refine z14 ?_ | refine z9 ?_ | refine z7 ?_ | (refine z5 fun K hK => ?_; simp (maxSteps := 4000000) only [go_sem]; refine hK _ ?_; clear hK K) | refine z13 ?_ | refine z15 ?_ | refine z10 ?_ | refine z8 ?_ | refine z6 rfl ?_ | refine z12 ?_ | refine z3 ?_ | refine z16 ?_ | refine z11 ?_ | refine z4 ?_)
      refine z20 rfl (fun hb => ?_) (fun hb => ?_)
      · have hlt : i < H := by simpa using hb
        have hw : IntKind.i64.wrap ((i : Int) + 1) = ((i + 1 : Nat) : Int) := by rw [z23 (by omega)]; simp
        have c40 := h40 i hlt
        rw [Hour.row] at c40
        have gA := z48 (z196 (heatF S) (fun u => decide (u < i)) hlt)
        have su : (intRows (rowQ (heatF S) H (fun u => decide (u < i)))).set i [.i (max 0 (hullAll S (i : Int)).temp.hi)] = intRows (rowQ (heatF S) H (fun u => decide (u < i + 1))) := by
          rw [z54]
          have := rowQ_set (heatF S) (fun u => decide (u < i)) hlt
          rw [heatF] at this
          rw [this]
          congr 1
          exact z91 fun u _ => by
            by_cases h1 : u < i
            · simp [h1]; omega
            · by_cases h2 : u = i
              · simp [h2]
              · have h3 : ¬ u < i + 1 := by omega
                simp [h1, h2, h3]
        obtain ⟨A, hA⟩ : ∃ A, A = rowQ (heatF S) H (fun u => decide (u < i)) := ⟨_, rfl⟩
        rw [← hA] at su gA hAl ⊢
        have hiA : i < A.length := by omega
        repeat (first | refine z14 ?_ | refine z9 ?_ | refine z7 ?_ | (refine z5 fun K hK => ?_; simp (maxSteps := 4000000) only [go_sem, gA, hiA, su, hw]; (repeat (first | (refine ⟨_, .lent (hf := c40) (hd := rfl) (hr := rfl), ?_⟩; simp (maxSteps := 4000000) only [go_sem, gA, hiA, su, hw]) | (refine ⟨_, .given (hf := c40) (hd := rfl) (ha := rfl), ?_⟩; simp (maxSteps := 4000000) only [go_sem, gA, hiA, su, hw]))); refine hK _ ?_; clear hK K) | refine z13 ?_ | refine z15 ?_ | refine z10 ?_ | refine z8 ?_ | refine z6 rfl ?_ | refine z12 ?_ | refine z3 ?_ | refine z16 ?_ | refine z11 ?_ | refine z4 ?_)
        refine ⟨rfl, i + 1, ?_, hlt, by omega⟩
        refine z19 [] ?_ ?_ rfl rfl <;> simp [lessT, lessM, lessB, AV.less]
        all_goals first | done | rfl
      · have he : i = H := by (have : ¬ i < H := by simpa using hb); omega
        subst he
        rw [show rowQ (heatF S) i (fun u => decide (u < i)) = heatL S i from z91 fun u hu => by simp [hu]]
        repeat (first | refine z14 ?_ | refine z9 ?_ | refine z7 ?_ | (refine z5 fun K hK => ?_; simp (maxSteps := 4000000) only [go_sem]; refine hK _ ?_; clear hK K) | refine z13 ?_ | refine z15 ?_ | refine z10 ?_ | refine z8 ?_ | refine z6 rfl ?_ | refine z12 ?_ | refine z3 ?_ | refine z16 ?_ | refine z11 ?_ | refine z4 ?_)
        obtain ⟨B, hB⟩ : ∃ B, B = heatL S i := ⟨_, rfl⟩
        rw [← hB]
        refine z22 (fun (k : Nat) => [(68, .d (.i k))]) (fun k => [(37, some (.box [.d (.sl (scenRows s.scen)), .d (.sl (sightRows s.seen)), .d (.i s.stock), .d (.i s.reserve), .d (.i s.room), .d (.i s.use.lo), .d (.i s.use.hi), .d (.sl (carrRows s.carr)), .own 124, .d (.i i)])), (124, some (.arr 22 1 (listRows ((s.carr.take k).map (loadRow S i)))))]) (fun k => k ≤ s.carr.length) (fun k => s.carr.length - k) 0 ?_ (Nat.zero_le _) ?_
        · simp (maxSteps := 4000000) only [go_sem]
          refine z19 [124] ?_ ?_ rfl rfl <;> simp [lessT, lessM, lessB, AV.less]
          all_goals first | done | rfl | exact ⟨rfl, rfl⟩ | trace_state
        · intro k hk
          simp (maxSteps := 4000000) only [go_sem]
          repeat (first | refine z14 ?_ | refine z9 ?_ | refine z7 ?_ | (refine z5 fun K hK => ?_; simp (maxSteps := 4000000) only [go_sem]; refine hK _ ?_; clear hK K) | refine z13 ?_ | refine z15 ?_ | refine z10 ?_ | refine z8 ?_ | refine z6 rfl ?_ | refine z12 ?_ | refine z3 ?_ | refine z16 ?_ | refine z11 ?_ | refine z4 ?_)
          refine z20 rfl (fun hb => ?_) (fun hb => ?_)
          · rw [z25] at hb
            have hlt : k < s.carr.length := by simpa using hb
            have hw : IntKind.i64.wrap ((k : Int) + 1) = ((k + 1 : Nat) : Int) := by rw [z23 (by omega)]; simp
            obtain ⟨c, hc⟩ : ∃ c, s.carr[k]? = some c := ⟨_, List.getElem?_eq_getElem hlt⟩
            have gc := z128 hc
            have hcb := hcarr c (List.mem_of_getElem? hc)
            have c41 := zf71 s.scen s.seen c.lim hs.fore hs.seen
            have hlim : limE c.lim = 0 := by
              unfold carrBad at hcb
              simp only [Bool.or_eq_false_iff, Bool.not_eq_false'] at hcb
              rw [limE, if_pos hcb.2.2.2]
            rw [keepsF, hlim, if_pos hlk, ← hS, hlen] at c41
            obtain ⟨sp, hsp⟩ : ∃ sp, sp = sureC S i c := ⟨_, rfl⟩
            have hspb : ∀ x ∈ sp, 0 ≤ x.lo ∧ x.lo ≤ x.hi ∧ x.hi < (i : Int) := by rw [hsp]; exact spansQ_ok _ _
            have hspl : sp.length ≤ i := by rw [hsp]; exact z193 _ _
            rw [sureC] at hsp
            rw [← hsp] at c41
            dsimp only at c41
            rw [Limits.row] at c41
            have htk : (s.carr.take (k + 1)).map (loadRow S i) = (s.carr.take k).map (loadRow S i) ++ [loadRow S i c] := by rw [List.take_add_one, hc]; simp
            have hlr : loadRow S i c = rowQ (loadOf S c) i (inSp sp) := by rw [loadRow, sureC, ← hsp]
            repeat (first | refine z14 ?_ | refine z9 ?_ | refine z7 ?_ | (refine z5 fun K hK => ?_; simp (maxSteps := 4000000) only [go_sem, gc, hmk, hrep, Carrier.row, hw]; (repeat (first | (refine ⟨_, .lent (hf := c41) (hd := rfl) (hr := rfl), ?_⟩; simp (maxSteps := 4000000) only [go_sem, gc, hmk, hrep, Carrier.row, hw]) | (refine ⟨_, .given (hf := c41) (hd := rfl) (ha := rfl), ?_⟩; simp (maxSteps := 4000000) only [go_sem, gc, hmk, hrep, Carrier.row, hw]))); refine hK _ ?_; clear hK K) | refine z13 ?_ | refine z15 ?_ | refine z10 ?_ | refine z8 ?_ | refine z6 rfl ?_ | refine z12 ?_ | refine z3 ?_ | refine z16 ?_ | refine z11 ?_ | refine z4 ?_)
            have hr0 : intRows (List.replicate i 0) = intRows (rowQ (loadOf S c) i (inSp (sp.take 0))) := by
              rw [← rowQ_none (loadOf S c) i, z91 (q' := inSp (sp.take 0)) (fun u _ => by simp [inSp])]
            refine z22 (fun (j : Nat) => [(90, .d (.i j))]) (fun j => [(76, some (.arr 3 1 (intRows (rowQ (loadOf S c) i (inSp (sp.take j))))))]) (fun j => j ≤ sp.length) (fun j => sp.length - j) 0 ?_ (Nat.zero_le _) ?_
            · rw [← hr0]
              simp (maxSteps := 4000000) only [go_sem]
              refine z19 [] ?_ ?_ rfl rfl <;> simp [lessT, lessM, lessB, AV.less]
              all_goals first | done | rfl
            · intro j hj
              simp (maxSteps := 4000000) only [go_sem]
              repeat (first | refine z14 ?_ | refine z9 ?_ | refine z7 ?_ | (refine z5 fun K hK => ?_; simp (maxSteps := 4000000) only [go_sem]; refine hK _ ?_; clear hK K) | refine z13 ?_ | refine z15 ?_ | refine z10 ?_ | refine z8 ?_ | refine z6 rfl ?_ | refine z12 ?_ | refine z3 ?_ | refine z16 ?_ | refine z11 ?_ | refine z4 ?_)
              refine z20 rfl (fun hb => ?_) (fun hb => ?_)
              · have hltj : j < sp.length := by simpa using hb
                have hwj : IntKind.i64.wrap ((j : Int) + 1) = ((j + 1 : Nat) : Int) := by rw [z23 (by omega)]; simp
                obtain ⟨x, hx⟩ : ∃ x, sp[j]? = some x := ⟨_, List.getElem?_eq_getElem hltj⟩
                have hxb := hspb x (List.mem_of_getElem? hx)
                have gx := z249 hx
                obtain ⟨a, ha⟩ : ∃ a : Nat, x.lo = a := ⟨x.lo.toNat, by omega⟩
                obtain ⟨b, hbb⟩ : ∃ b : Nat, x.hi = b := ⟨x.hi.toNat, by omega⟩
                rw [Span.row, ha, hbb] at gx
                have hsx : inSp (sp.take (j + 1)) = fun u => inSp (sp.take j) u || (decide (a ≤ u) && decide (u < b + 1)) := by
                  funext u
                  unfold inSp
                  rw [List.take_add_one, hx, Option.toList_some, List.any_append, List.any_cons, List.any_nil, Bool.or_false, withinB, ha, hbb]
                  congr 1
                  congr 1
                  · exact decide_eq_decide.2 (by omega)
                  · exact decide_eq_decide.2 (by omega)
                repeat (first | refine z14 ?_ | refine z9 ?_ | refine z7 ?_ | (refine z5 fun K hK => ?_; simp (maxSteps := 4000000) only [go_sem, gx]; refine hK _ ?_; clear hK K) | refine z13 ?_ | refine z15 ?_ | refine z10 ?_ | refine z8 ?_ | refine z6 rfl ?_ | refine z12 ?_ | refine z3 ?_ | refine z16 ?_ | refine z11 ?_ | refine z4 ?_)
                obtain ⟨q, hq⟩ : ∃ q, q = inSp (sp.take j) := ⟨_, rfl⟩
                rw [← hq] at hsx ⊢
                have hr1 : intRows (rowQ (loadOf S c) i q) = intRows (rowQ (loadOf S c) i (fun u => q u || (decide (a ≤ u) && decide (u < a)))) := by
                  rw [z91 (q' := fun u => q u || (decide (a ≤ u) && decide (u < a)))]
                  intro u _
                  have : (decide (a ≤ u) && decide (u < a)) = false := by
                    cases h : decide (a ≤ u)
                    · rfl
                    · have := of_decide_eq_true h
                      simpa using this
                  rw [this, Bool.or_false]
                refine z22 (fun (t : Nat) => [(22, .d (.i t))]) (fun t => [(76, some (.arr 3 1 (intRows (rowQ (loadOf S c) i (fun u => q u || (decide (a ≤ u) && decide (u < t)))))))]) (fun t => a ≤ t ∧ t ≤ b + 1) (fun t => b + 1 - t) a ?_ ⟨Nat.le_refl _, by omega⟩ ?_
                · rw [← hr1]
                  simp (maxSteps := 4000000) only [go_sem]
                  refine z19 [] ?_ ?_ rfl rfl <;> simp [lessT, lessM, lessB, AV.less]
                  all_goals first | done | rfl
                · rintro t ⟨hta, htb⟩
                  simp (maxSteps := 4000000) only [go_sem]
                  repeat (first | refine z14 ?_ | refine z9 ?_ | refine z7 ?_ | (refine z5 fun K hK => ?_; simp (maxSteps := 4000000) only [go_sem]; refine hK _ ?_; clear hK K) | refine z13 ?_ | refine z15 ?_ | refine z10 ?_ | refine z8 ?_ | refine z6 rfl ?_ | refine z12 ?_ | refine z3 ?_ | refine z16 ?_ | refine z11 ?_ | refine z4 ?_)
                  refine z20 rfl (fun hb => ?_) (fun hb => ?_)
                  · have hltt : t ≤ b := by simpa using hb
                    have hti : t < i := by omega
                    have hwt : IntKind.i64.wrap ((t : Int) + 1) = ((t + 1 : Nat) : Int) := by rw [z23 (by omega)]; simp
                    have gB : (intRows B)[t]? = some [.i (heatF S t)] := by rw [hB, heatL]; exact z48 (by rw [z196 _ _ hti]; rfl)
                    have gA := z48 (z196 (loadOf S c) (fun u => q u || (decide (a ≤ u) && decide (u < t))) hti)
                    have hAl2 := z149 (loadOf S c) i (fun u => q u || (decide (a ≤ u) && decide (u < t)))
                    have su : (intRows (rowQ (loadOf S c) i (fun u => q u || (decide (a ≤ u) && decide (u < t))))).set t [.i (max 0 (wr (c.lift - wr (c.heat * heatF S t))))] = intRows (rowQ (loadOf S c) i (fun u => q u || (decide (a ≤ u) && decide (u < t + 1)))) := by
                      rw [z54]
                      have := rowQ_set (loadOf S c) (fun u => q u || (decide (a ≤ u) && decide (u < t))) hti
                      rw [loadOf] at this
                      rw [this]
                      congr 1
                      exact z91 fun u _ => by
                        rw [Bool.or_assoc]
                        congr 1
                        by_cases h1 : u < t
                        · have h2 : u < t + 1 := by omega
                          have h3 : (u == t) = false := by have : u ≠ t := by omega
                                                           simpa using this
                          rw [h3, Bool.or_false, decide_eq_true h1, decide_eq_true h2]
                        · by_cases h2 : u = t
                          · subst h2
                            simp [hta]
                          · have h3 : ¬ u < t + 1 := by omega
                            simp [h1, h2, h3]
                    obtain ⟨A2, hA2⟩ : ∃ A2, A2 = rowQ (loadOf S c) i (fun u => q u || (decide (a ≤ u) && decide (u < t))) := ⟨_, rfl⟩
                    rw [← hA2] at su gA hAl2 ⊢
                    have hiA : t < A2.length := by omega
                    have hiB : t < B.length := by rw [hB, heatL, z149]; exact hti
                    repeat (first | refine z18 rfl ?_ | refine z17 rfl ?_ | refine z14 ?_ | refine z9 ?_ | refine z7 ?_ | (refine z5 fun K hK => ?_; simp (maxSteps := 4000000) only [go_sem, gA, gB, hiA, hiB, su, hwt]; refine hK _ ?_; clear hK K) | (refine z24 (by kernel_rfl) (by kernel_rfl) fun K hK => ?_; simp (maxSteps := 4000000) only [go_sem, gA, gB, hiA, hiB, su, hwt]; refine ⟨by kernel_rfl, hK _ ?_⟩; clear hK K) | refine z13 ?_ | refine z15 ?_ | refine z10 ?_ | refine z8 ?_ | refine z6 rfl ?_ | refine z12 ?_ | refine z3 ?_ | refine z16 ?_ | refine z11 ?_ | refine z4 ?_)
                    refine ⟨rfl, t + 1, ?_, ⟨by omega, by omega⟩, by omega⟩
                    refine z19 [] ?_ ?_ rfl rfl <;> simp [lessT, lessM, lessB, AV.less]
                    all_goals first | done | rfl
                  · have het : t = b + 1 := by (have : ¬ t ≤ b := by simpa using hb); omega
                    subst het
                    rw [← hsx]
                    repeat (first | refine z14 ?_ | refine z9 ?_ | refine z7 ?_ | (refine z5 fun K hK => ?_; simp (maxSteps := 4000000) only [go_sem, hwj]; refine hK _ ?_; clear hK K) | refine z13 ?_ | refine z15 ?_ | refine z10 ?_ | refine z8 ?_ | refine z6 rfl ?_ | refine z12 ?_ | refine z3 ?_ | refine z16 ?_ | refine z11 ?_ | refine z4 ?_)
                    refine ⟨rfl, j + 1, ?_, hltj, by omega⟩
                    refine z19 [] ?_ ?_ rfl rfl <;> simp [lessT, lessM, lessB, AV.less]
                    all_goals first | done | rfl
              · have he : j = sp.length := by (have : ¬ j < sp.length := by simpa using hb); omega
                subst he
                rw [List.take_length, ← hlr]
                obtain ⟨R, hR⟩ : ∃ R, R = loadRow S i c := ⟨_, rfl⟩
                obtain ⟨D, hD⟩ : ∃ D, D = (s.carr.take k).map (loadRow S i) := ⟨_, rfl⟩
                have hDl : D.length ≤ k := by rw [hD]; simp; omega
                have hn : D.length + 1 ≤ 549755813888 := by omega
                rw [← hR, ← hD] at htk ⊢
                repeat (first | refine z14 ?_ | refine z9 ?_ | refine z7 ?_ | (refine z5 fun K hK => ?_; simp (maxSteps := 4000000) only [go_sem, hn, z39, hw]; refine hK _ ?_; clear hK K) | refine z13 ?_ | refine z15 ?_ | refine z10 ?_ | refine z8 ?_ | refine z6 rfl ?_ | refine z12 ?_ | refine z3 ?_ | refine z16 ?_ | refine z11 ?_ | refine z4 ?_)
                refine ⟨rfl, k + 1, ?_, hlt, by omega⟩
                rw [htk, show listRows (D ++ [R]) = listRows D ++ [[.sl (intRows R)]] by simp [listRows]]
                refine z19 [] ?_ ?_ rfl rfl <;> simp [lessT, lessM, lessB, AV.less]
                all_goals first | done | rfl | exact ⟨rfl, rfl⟩
          · rw [z25] at hb
            have he : k = s.carr.length := by (have : ¬ k < s.carr.length := by simpa using hb); omega
            subst he
            rw [List.take_length]
            have h42 := h42 h0
            simp only [hutOf, hutRow, Supply.loads, Supply.scens, Supply.hours, ← hS, hlen] at h42
            cases ok
            · repeat (first | refine z18 rfl ?_ | refine z17 rfl ?_ | refine z14 ?_ | refine z9 ?_ | refine z7 ?_ | (refine z5 fun K hK => ?_; simp (maxSteps := 4000000) only [go_sem]; (repeat (first | (refine ⟨_, .lent (hf := h42) (hd := rfl) (hr := rfl), ?_⟩; simp (maxSteps := 4000000) only [go_sem]) | (refine ⟨_, .given (hf := h42) (hd := rfl) (ha := rfl), ?_⟩; simp (maxSteps := 4000000) only [go_sem]))); refine hK _ ?_; clear hK K) | refine z13 ?_ | refine z15 ?_ | refine z10 ?_ | refine z8 ?_ | refine z6 rfl ?_ | refine z12 ?_ | refine z3 ?_ | refine z16 ?_ | refine z11 ?_ | refine z4 ?_)
              simp (maxSteps := 4000000) only [go_sem]
            · cases told
              · repeat (first | refine z18 rfl ?_ | refine z17 rfl ?_ | refine z14 ?_ | refine z9 ?_ | refine z7 ?_ | (refine z5 fun K hK => ?_; simp (maxSteps := 4000000) only [go_sem]; (repeat (first | (refine ⟨_, .lent (hf := h42) (hd := rfl) (hr := rfl), ?_⟩; simp (maxSteps := 4000000) only [go_sem]) | (refine ⟨_, .given (hf := h42) (hd := rfl) (ha := rfl), ?_⟩; simp (maxSteps := 4000000) only [go_sem]))); refine hK _ ?_; clear hK K) | refine z13 ?_ | refine z15 ?_ | refine z10 ?_ | refine z8 ?_ | refine z6 rfl ?_ | refine z12 ?_ | refine z3 ?_ | refine z16 ?_ | refine z11 ?_ | refine z4 ?_)
                simp (maxSteps := 4000000) only [go_sem]
              · repeat (first | refine z18 rfl ?_ | refine z17 rfl ?_ | refine z14 ?_ | refine z9 ?_ | refine z7 ?_ | (refine z5 fun K hK => ?_; simp (maxSteps := 4000000) only [go_sem]; (repeat (first | (refine ⟨_, .lent (hf := h42) (hd := rfl) (hr := rfl), ?_⟩; simp (maxSteps := 4000000) only [go_sem]) | (refine ⟨_, .given (hf := h42) (hd := rfl) (ha := rfl), ?_⟩; simp (maxSteps := 4000000) only [go_sem]))); refine hK _ ?_; clear hK K) | refine z13 ?_ | refine z15 ?_ | refine z10 ?_ | refine z8 ?_ | refine z6 rfl ?_ | refine z12 ?_ | refine z3 ?_ | refine z16 ?_ | refine z11 ?_ | refine z4 ?_)
                simp (maxSteps := 4000000) only [go_sem, hutOf, hutRow, Supply.loads, Supply.scens, Supply.hours, ← hS, hlen]
  · rw [if_neg h0, if_neg h0]
    have hz : (e != 0) = true := by simp [h0]
    repeat (first | refine z18 rfl ?_ | refine z17 rfl ?_ | refine z14 ?_ | refine z9 ?_ | refine z7 ?_ | (refine z5 fun K hK => ?_; simp (maxSteps := 4000000) only [go_sem, hz]; (repeat (first | (refine ⟨_, .lent (hf := h39) (hd := rfl) (hr := rfl), ?_⟩; simp (maxSteps := 4000000) only [go_sem, hz]) | (refine ⟨_, .given (hf := h39) (hd := rfl) (ha := rfl), ?_⟩; simp (maxSteps := 4000000) only [go_sem, hz]))); refine hK _ ?_; clear hK K) | refine z13 ?_ | refine z15 ?_ | refine z10 ?_ | refine z8 ?_ | refine z6 rfl ?_ | refine z12 ?_ | refine z3 ?_ | refine z16 ?_ | refine z11 ?_ | refine z4 ?_)
    simp (maxSteps := 4000000) only [go_sem]
theorem zf25n (s : Supply) (told : Bool) (hs : SuppSmall s) :
    Fn Tryz.prog 38 [.agg s.cells, .sl [], .bool told] (.tup [if openS6 s told = 0 then .ptr (hutOf s) 0 else .nilptr, .i (openS6 s told)]) := by
  have := zf51g s [] true told hs fun _ => zf42n _
  have e : openT6 s true told = openS6 s told := by simp [openT6, openS6]
  rw [e] at this
  exact this
end Go.Ab
namespace Go.Ab
open Go.RowKit Go.Proofs
set_option maxHeartbeats 16000000
set_option maxRecDepth 20000
attribute [local irreducible] WalkL Walk
structure Flight where
  set : Int
  load : Int
  cost : Int
def Flight.row (f : Flight) : List DV := [.i f.set, .i f.load, .i f.cost]
def flRows (l : List Flight) : List (List DV) := l.map Flight.row
def addF (i : Nat) (l cost : Int) (f : Flight) : Flight := ⟨bOr .i64 f.set (bShl .i64 1 (i : Int)), wr (f.load + l), wr (f.cost + cost)⟩
def stepFl (i : Nat) (l cost : Int) (out : List Flight) : List Flight := if l = 0 then out else out ++ out.map (addF i l cost)
def noCarrier : Carrier := ⟨0, 0, 0, ⟨0, 0, ⟨0, 0⟩⟩⟩
def flightsTo (cs : List Carrier) (L : List (List Int)) (h : Nat) : Nat → List Flight
  | 0 => [⟨0, 0, 0⟩]
  | i + 1 => stepFl i (getI (L.getD i []) (h : Int)) (cs.getD i noCarrier).cost (flightsTo cs L h i)
def fl5 : Nat → AV
  | 0 => .own 11
  | _ => .own 65
def fl32 (N : Nat) (R : List (List DV)) : Nat → AV
  | 0 => .view 11 0 N
  | 1 => .d (.sl R)
  | _ => .view 65 0 N
def flM (b : Blk) : Nat → Option Blk
  | 0 => some b
  | _ => none
def flM' (b : Blk) : Nat → Option Blk
  | 0 => none
  | _ => some b
end Go.Ab
namespace Go.Ab
open Go.RowKit Go.Proofs
set_option maxHeartbeats 8000000
set_option maxRecDepth 20000
attribute [local irreducible] WalkL Walk
def fitsB6 (s : Supply) (h b : Int) : Bool := decide (wr (wr (s.stock + b) - wr (h * s.use.lo)) ≤ s.room)
def suffB (s : Supply) (h b : Int) : Bool := decide (wr (wr (s.stock + b) - wr (wr (h + 1) * s.use.hi)) ≥ s.reserve)
def okFl (s : Supply) (h b : Int) (f : Flight) : Bool := fitsB6 s h (wr (b + f.load)) && suffB s h (wr (b + f.load))
def nextItem (h b : Int) (f : Flight) : List DV := [.agg f.row, .agg [.i (wr (h + 1)), .i (wr (b + f.load))]]
def nextF (s : Supply) (fl : List Flight) (h b : Int) : List Flight := fl.filter (okFl s h b)
end Go.Ab
namespace Go.Ab
open Go.RowKit Go.Proofs
set_option maxHeartbeats 16000000
set_option maxRecDepth 20000
attribute [local irreducible] WalkL Walk
structure Way where
  cost : Int
  fl : Flight
def wayD : Option Way → DV
  | none => .nilptr
  | some w => .ptr [.i w.cost, .i w.fl.set, .i w.fl.load, .i w.fl.cost] 0
abbrev Ent := (Int × Int) × Option Way × Nat
def memE (es : List Ent) : List (MK × DV × Nat) := es.map fun e => (.s [e.1.1, e.1.2], wayD e.2.1, e.2.2)
def lookE : List Ent → Int × Int → Nat → Option (Nat × Option Way × Nat)
  | [], _, _ => none
  | e :: es, k, i => if k = e.1 then some (i, e.2.1, e.2.2) else lookE es k (i + 1)
def putE : List Ent → Int × Int → Option Way → Nat → List Ent × Nat
  | [], k, w, c => ([(k, w, c)], c + 1)
  | e :: es, k, w, c => if k = e.1 then ((k, w, e.2.2) :: es, c) else (e :: (putE es k w c).1, (putE es k w c).2)
def better (best : Option Way) (f : Flight) : Option Way → Option Way
  | none => best
  | some w => match best with
    | none => some ⟨wr (f.cost + w.cost), f⟩
    | some v => if wr (f.cost + w.cost) < v.cost then some ⟨wr (f.cost + w.cost), f⟩ else best
def doneW : Option Way := some ⟨0, ⟨0, 0, 0⟩⟩
def findM (s : Supply) (L : List (List Int)) (H : Nat) : Nat → Int → List Ent × Nat → Option Way × (List Ent × Nat)
  | 0, b, m => (doneW, putE m.1 ((H : Int), b) doneW m.2)
  | n + 1, b, m => match lookE m.1 (((H - (n + 1) : Nat) : Int), b) 0 with
    | some (_, v, _) => (v, m)
    | none => (((nextF s (flightsTo s.carr L (H - (n + 1)) L.length) ((H - (n + 1) : Nat) : Int) b).foldl (fun a f => (better a.1 f (findM s L H n (wr (b + f.load)) a.2).1, (findM s L H n (wr (b + f.load)) a.2).2)) (none, m)).1,
      putE ((nextF s (flightsTo s.carr L (H - (n + 1)) L.length) ((H - (n + 1) : Nat) : Int) b).foldl (fun a f => (better a.1 f (findM s L H n (wr (b + f.load)) a.2).1, (findM s L H n (wr (b + f.load)) a.2).2)) (none, m)).2.1 (((H - (n + 1) : Nat) : Int), b)
        ((nextF s (flightsTo s.carr L (H - (n + 1)) L.length) ((H - (n + 1) : Nat) : Int) b).foldl (fun a f => (better a.1 f (findM s L H n (wr (b + f.load)) a.2).1, (findM s L H n (wr (b + f.load)) a.2).2)) (none, m)).1
        ((nextF s (flightsTo s.carr L (H - (n + 1)) L.length) ((H - (n + 1) : Nat) : Int) b).foldl (fun a f => (better a.1 f (findM s L H n (wr (b + f.load)) a.2).1, (findM s L H n (wr (b + f.load)) a.2).2)) (none, m)).2.2)
end Go.Ab
namespace Go.Ab
open Go.RowKit Go.Proofs
def lookW (es : List Ent) (k : Int × Int) : Option (Option Way) := (lookE es k 0).map (·.2.1)
structure GoodM (H : Nat) (es : List Ent) : Prop where
  done : ∀ b v, lookW es ((H : Int), b) = some v → v = doneW
  next : ∀ (h : Nat) b w, h < H → lookW es ((h : Int), b) = some (some w) → ∃ w', lookW es (((h + 1 : Nat) : Int), wr (b + w.fl.load)) = some (some w')
end Go.Ab
namespace Go.Ab
open Go.RowKit Go.Proofs
set_option maxHeartbeats 8000000
set_option maxRecDepth 20000
attribute [local irreducible] WalkL Walk
structure Small6 (s : Supply) : Prop where
  len : s.loads.length = s.carr.length
  few : s.loads.length ≤ 4
  rows : ∀ r ∈ s.loads, r.length = s.hours
  hours : 1 ≤ s.hours ∧ s.hours ≤ 48
  look : lookF s.scen s.seen 0 true = 0
def foundM (s : Supply) : Option Way × (List Ent × Nat) := findM s s.loads s.hours s.hours 0 ([], 0)
def planE (s : Supply) : Int := if (foundM s).1.isNone then 3 else 0
end Go.Ab
namespace Go.Ab
open Go.RowKit Go.Proofs
set_option maxHeartbeats 8000000
set_option maxRecDepth 20000
attribute [local irreducible] WalkL Walk
def bitB (set : Int) (c : Nat) : Bool := bAnd .i64 (bShr .i64 set (c : Int)) 1 == 1
def tripsTo (h : Nat) (set : Int) (n : Nat) : List (Int × Int) := ((List.range n).filter (bitB set)).map fun (c : Nat) => ((h : Int), (c : Int))
def planT (es : List Ent) (n : Nat) : Nat → Nat → Int → Way → List (Int × Int)
  | 0, _, _, _ => []
  | k + 1, h, b, w => tripsTo h w.fl.set n ++ match lookW es (((h + 1 : Nat) : Int), wr (b + w.fl.load)) with
    | some (some w') => planT es n k (h + 1) (wr (b + w.fl.load)) w'
    | _ => []
def planS (s : Supply) : List (Int × Int) × Int × Int := match (foundM s).1 with
  | none => ([], 0, 3)
  | some w => (planT (foundM s).2.1 s.carr.length s.hours 0 0 w, w.cost, 0)
end Go.Ab
namespace Go.Ab
open Go.RowKit Go.Proofs
set_option maxHeartbeats 8000000
set_option maxRecDepth 20000
attribute [local irreducible] WalkL Walk
def storeBadR (s : Supply) : Bool := !withinB s.room 0 5000 || (!withinB s.stock 0 s.room || (!withinB s.reserve 0 s.room || (!withinB s.use.lo 0 s.use.hi || decide (s.use.hi > 500))))
theorem storeBadR_eq (s : Supply) : storeBadR s = storeBad s := by
  unfold storeBadR storeBad
  congr 1; congr 1; congr 1
  rw [Bool.eq_iff_iff]
  simp [withinB, orderedB]
  omega
theorem zf55 (s : Supply) (hs : SuppSmall s) : Fn Tryz.prog 55 [.agg s.cells] (.i (suppE s)) := by
  have h36 := zf83 s.scen s.seen hs.fore hs.seen
  have hcl := hs.carr
  refine z21 95 Tryz.call55 Tryz.func55 rfl (by decide) fun J => ?_
  simp (maxSteps := 4000000) only [go_sem, St.start, Tryz.ntmps55, Tryz.results55, Supply.cells]
  obtain ⟨e, he⟩ : ∃ e, e = lookF s.scen s.seen 0 true := ⟨_, rfl⟩
  rw [suppE, ← he]
  rw [← he] at h36
  by_cases h0 : e = 0
  · rw [if_pos h0]
    have hz : (e != 0) = false := by simp [h0]
    rw [← storeBadR_eq]
    repeat (first | refine z18 rfl ?_ | refine z17 rfl ?_ | refine z14 ?_ | refine z9 ?_ | refine z7 ?_ | (refine z5 fun K hK => ?_; simp (maxSteps := 4000000) only [go_sem, hz]; (repeat (first | (refine ⟨_, .lent (hf := h36) (hd := rfl) (hr := rfl), ?_⟩; simp (maxSteps := 4000000) only [go_sem, hz]) | (refine ⟨_, .given (hf := h36) (hd := rfl) (ha := rfl), ?_⟩; simp (maxSteps := 4000000) only [go_sem, hz]))); refine hK _ ?_; clear hK K) | refine z13 ?_ | refine z15 ?_ | refine z10 ?_ | refine z8 ?_ | refine z6 rfl ?_ | refine z12 ?_ | refine z3 ?_ | refine z16 ?_ | refine z11 ?_ | refine z4 ?_)
    refine z40 [(56, .d (.bool (storeBadR s)))] [] ?_ ?_
    · refine z5 fun K hK => ?_
      simp (maxSteps := 4000000) only [go_sem]
      refine ⟨_, .lent (hf := zf65 s.room 0 5000) (hd := rfl) (hr := rfl), ?_⟩
      simp (maxSteps := 4000000) only [go_sem]
      by_cases ho0 : (!withinB s.room 0 5000) = true
      · simp (maxSteps := 4000000) only [go_sem, ho0]
        refine hK _ ?_
        clear hK K
        refine z13 ?_
        refine z4 ?_
        refine ⟨rfl, ?_⟩
        rw [show (storeBadR s) = (true) from by simp [storeBadR, ho0]]
        simp (maxSteps := 4000000) only [go_sem]
        refine z19 [] ?_ ?_ rfl rfl <;> simp [lessT, lessM, lessB, AV.less]
      · simp (maxSteps := 4000000) only [go_sem, ho0]
        refine ⟨_, .lent (hf := zf65 s.stock 0 s.room) (hd := rfl) (hr := rfl), ?_⟩
        simp (maxSteps := 4000000) only [go_sem, ho0]
        by_cases ho1 : (!withinB s.stock 0 s.room) = true
        · simp (maxSteps := 4000000) only [go_sem, ho0, ho1]
          refine hK _ ?_
          clear hK K
          refine z13 ?_
          refine z4 ?_
          refine ⟨rfl, ?_⟩
          rw [show (storeBadR s) = (true) from by simp [storeBadR, ho0, ho1]]
          simp (maxSteps := 4000000) only [go_sem]
          refine z19 [] ?_ ?_ rfl rfl <;> simp [lessT, lessM, lessB, AV.less]
        · simp (maxSteps := 4000000) only [go_sem, ho0, ho1]
          refine ⟨_, .lent (hf := zf65 s.reserve 0 s.room) (hd := rfl) (hr := rfl), ?_⟩
          simp (maxSteps := 4000000) only [go_sem, ho0, ho1]
          by_cases ho2 : (!withinB s.reserve 0 s.room) = true
          · simp (maxSteps := 4000000) only [go_sem, ho0, ho1, ho2]
            refine hK _ ?_
            clear hK K
            refine z13 ?_
            refine z4 ?_
            refine ⟨rfl, ?_⟩
            rw [show (storeBadR s) = (true) from by simp [storeBadR, ho0, ho1, ho2]]
            simp (maxSteps := 4000000) only [go_sem]
            refine z19 [] ?_ ?_ rfl rfl <;> simp [lessT, lessM, lessB, AV.less]
          · simp (maxSteps := 4000000) only [go_sem, ho0, ho1, ho2]
            refine ⟨_, .lent (hf := zf65 s.use.lo 0 s.use.hi) (hd := rfl) (hr := rfl), ?_⟩
            simp (maxSteps := 4000000) only [go_sem, ho0, ho1, ho2]
            by_cases ho3 : (!withinB s.use.lo 0 s.use.hi) = true
            · simp (maxSteps := 4000000) only [go_sem, ho0, ho1, ho2, ho3]
              refine hK _ ?_
              clear hK K
              refine z13 ?_
              refine z4 ?_
              refine ⟨rfl, ?_⟩
              rw [show (storeBadR s) = (true) from by simp [storeBadR, ho0, ho1, ho2, ho3]]
              simp (maxSteps := 4000000) only [go_sem]
              refine z19 [] ?_ ?_ rfl rfl <;> simp [lessT, lessM, lessB, AV.less]
            · simp (maxSteps := 4000000) only [go_sem, ho0, ho1, ho2, ho3]
              refine hK _ ?_
              clear hK K
              refine z13 ?_
              refine z4 ?_
              refine ⟨rfl, ?_⟩
              rw [show (storeBadR s) = (decide (s.use.hi > 500)) from by simp [storeBadR, ho0, ho1, ho2, ho3]]
              simp (maxSteps := 4000000) only [go_sem]
              refine z19 [] ?_ ?_ rfl rfl <;> simp [lessT, lessM, lessB, AV.less]
    · simp (maxSteps := 4000000) only [go_sem]
      repeat (first | refine z14 ?_ | refine z9 ?_ | refine z7 ?_ | (refine z5 fun K hK => ?_; simp (maxSteps := 4000000) only [go_sem]; refine hK _ ?_; clear hK K) | refine z13 ?_ | refine z15 ?_ | refine z10 ?_ | refine z8 ?_ | refine z6 rfl ?_ | refine z12 ?_ | refine z3 ?_ | refine z16 ?_ | refine z11 ?_ | refine z4 ?_)
      refine z20 rfl (fun hc => ?_) (fun hc => ?_)
      · repeat (first | refine z14 ?_ | refine z9 ?_ | refine z7 ?_ | (refine z5 fun K hK => ?_; simp (maxSteps := 4000000) only [go_sem]; refine hK _ ?_; clear hK K) | refine z13 ?_ | refine z15 ?_ | refine z10 ?_ | refine z8 ?_ | refine z6 rfl ?_ | refine z12 ?_ | refine z3 ?_ | refine z16 ?_ | refine z11 ?_ | refine z4 ?_)
        simp (maxSteps := 4000000) only [go_sem, hc]
      · have hc0 := hc
        repeat (first | refine z14 ?_ | refine z9 ?_ | refine z7 ?_ | (refine z5 fun K hK => ?_; simp (maxSteps := 4000000) only [go_sem, z25]; refine hK _ ?_; clear hK K) | refine z13 ?_ | refine z15 ?_ | refine z10 ?_ | refine z8 ?_ | refine z6 rfl ?_ | refine z12 ?_ | refine z3 ?_ | refine z16 ?_ | refine z11 ?_ | refine z4 ?_)
        refine z20 rfl (fun hc => ?_) (fun hc => ?_)
        · have hq : carrsBad s = true := by rw [carrsBad, hc]; rfl
          repeat (first | refine z14 ?_ | refine z9 ?_ | refine z7 ?_ | (refine z5 fun K hK => ?_; simp (maxSteps := 4000000) only [go_sem]; refine hK _ ?_; clear hK K) | refine z13 ?_ | refine z15 ?_ | refine z10 ?_ | refine z8 ?_ | refine z6 rfl ?_ | refine z12 ?_ | refine z3 ?_ | refine z16 ?_ | refine z11 ?_ | refine z4 ?_)
          simp (maxSteps := 4000000) only [go_sem, hc0, hq]
        · have hc1 := hc
          repeat (first | refine z14 ?_ | refine z9 ?_ | refine z7 ?_ | (refine z5 fun K hK => ?_; simp (maxSteps := 4000000) only [go_sem]; refine hK _ ?_; clear hK K) | refine z13 ?_ | refine z15 ?_ | refine z10 ?_ | refine z8 ?_ | refine z6 rfl ?_ | refine z12 ?_ | refine z3 ?_ | refine z16 ?_ | refine z11 ?_ | refine z4 ?_)
          refine z22 (fun (i : Nat) => [(6, .d (.i i))]) (fun _ => []) (fun i => i ≤ s.carr.length ∧ (s.carr.take i).any carrBad = false) (fun i => s.carr.length - i) 0 ?_ ⟨Nat.zero_le _, by simp⟩ ?_
          · simp (maxSteps := 4000000) only [go_sem]
            refine z19 [] ?_ ?_ rfl rfl <;> simp [lessT, lessM, lessB, AV.less]
          · intro i ⟨hi, hno⟩
            simp (maxSteps := 4000000) only [go_sem]
            repeat (first | refine z14 ?_ | refine z9 ?_ | refine z7 ?_ | (refine z5 fun K hK => ?_; simp (maxSteps := 4000000) only [go_sem, z25]; refine hK _ ?_; clear hK K) | refine z13 ?_ | refine z15 ?_ | refine z10 ?_ | refine z8 ?_ | refine z6 rfl ?_ | refine z12 ?_ | refine z3 ?_ | refine z16 ?_ | refine z11 ?_ | refine z4 ?_)
            refine z20 rfl (fun hb => ?_) (fun hb => ?_)
            · have hlt : i < s.carr.length := by simpa using hb
              have hw : IntKind.i64.wrap ((i : Int) + 1) = ((i + 1 : Nat) : Int) := by rw [z23 (by omega)]; simp
              obtain ⟨c, hcc⟩ : ∃ c, s.carr[i]? = some c := ⟨_, List.getElem?_eq_getElem hlt⟩
              have gc := z128 hcc
              have h37 := zf84 c.lim
              rw [Limits.row] at h37
              repeat (first | refine z14 ?_ | refine z9 ?_ | refine z7 ?_ | (refine z5 fun K hK => ?_; simp (maxSteps := 4000000) only [go_sem, gc, Carrier.row]; refine hK _ ?_; clear hK K) | refine z13 ?_ | refine z15 ?_ | refine z10 ?_ | refine z8 ?_ | refine z6 rfl ?_ | refine z12 ?_ | refine z3 ?_ | refine z16 ?_ | refine z11 ?_ | refine z4 ?_)
              refine z40 [(94, .d (.bool (carrBad c)))] [] ?_ ?_
              · refine z5 fun K hK => ?_
                simp (maxSteps := 4000000) only [go_sem]
                refine ⟨_, .lent (hf := zf65 c.lift 0 1000) (hd := rfl) (hr := rfl), ?_⟩
                simp (maxSteps := 4000000) only [go_sem]
                by_cases ho0 : (!withinB c.lift 0 1000) = true
                · simp (maxSteps := 4000000) only [go_sem, ho0]
                  refine hK _ ?_
                  clear hK K
                  refine z13 ?_
                  refine z4 ?_
                  refine ⟨rfl, ?_⟩
                  rw [show (carrBad c) = (true) from by simp [carrBad, ho0]]
                  simp (maxSteps := 4000000) only [go_sem]
                  refine z19 [] ?_ ?_ rfl rfl <;> simp [lessT, lessM, lessB, AV.less]
                · simp (maxSteps := 4000000) only [go_sem, ho0]
                  refine ⟨_, .lent (hf := zf65 c.heat 0 50) (hd := rfl) (hr := rfl), ?_⟩
                  simp (maxSteps := 4000000) only [go_sem, ho0]
                  by_cases ho1 : (!withinB c.heat 0 50) = true
                  · simp (maxSteps := 4000000) only [go_sem, ho0, ho1]
                    refine hK _ ?_
                    clear hK K
                    refine z13 ?_
                    refine z4 ?_
                    refine ⟨rfl, ?_⟩
                    rw [show (carrBad c) = (true) from by simp [carrBad, ho0, ho1]]
                    simp (maxSteps := 4000000) only [go_sem]
                    refine z19 [] ?_ ?_ rfl rfl <;> simp [lessT, lessM, lessB, AV.less]
                  · simp (maxSteps := 4000000) only [go_sem, ho0, ho1]
                    refine ⟨_, .lent (hf := zf65 c.cost 0 10000) (hd := rfl) (hr := rfl), ?_⟩
                    simp (maxSteps := 4000000) only [go_sem, ho0, ho1]
                    by_cases ho2 : (!withinB c.cost 0 10000) = true
                    · simp (maxSteps := 4000000) only [go_sem, ho0, ho1, ho2]
                      refine hK _ ?_
                      clear hK K
                      refine z13 ?_
                      refine z4 ?_
                      refine ⟨rfl, ?_⟩
                      rw [show (carrBad c) = (true) from by simp [carrBad, ho0, ho1, ho2]]
                      simp (maxSteps := 4000000) only [go_sem]
                      refine z19 [] ?_ ?_ rfl rfl <;> simp [lessT, lessM, lessB, AV.less]
                    · simp (maxSteps := 4000000) only [go_sem, ho0, ho1, ho2]
                      refine ⟨_, .lent (hf := h37) (hd := rfl) (hr := rfl), ?_⟩
                      simp (maxSteps := 4000000) only [go_sem, ho0, ho1, ho2]
                      refine hK _ ?_
                      clear hK K
                      refine z13 ?_
                      refine z4 ?_
                      refine ⟨rfl, ?_⟩
                      rw [show (carrBad c) = (!limB c.lim) from by simp [carrBad, ho0, ho1, ho2]]
                      simp (maxSteps := 4000000) only [go_sem]
                      refine z19 [] ?_ ?_ rfl rfl <;> simp [lessT, lessM, lessB, AV.less]
              · simp (maxSteps := 4000000) only [go_sem]
                repeat (first | refine z14 ?_ | refine z9 ?_ | refine z7 ?_ | (refine z5 fun K hK => ?_; simp (maxSteps := 4000000) only [go_sem]; refine hK _ ?_; clear hK K) | refine z13 ?_ | refine z15 ?_ | refine z10 ?_ | refine z8 ?_ | refine z6 rfl ?_ | refine z12 ?_ | refine z3 ?_ | refine z16 ?_ | refine z11 ?_ | refine z4 ?_)
                refine z20 rfl (fun hc => ?_) (fun hc => ?_)
                · have hq : carrsBad s = true := by
                    rw [carrsBad, Bool.or_eq_true]
                    exact .inr (List.any_eq_true.2 ⟨c, List.mem_of_getElem? hcc, hc⟩)
                  repeat (first | refine z14 ?_ | refine z9 ?_ | refine z7 ?_ | (refine z5 fun K hK => ?_; simp (maxSteps := 4000000) only [go_sem]; refine hK _ ?_; clear hK K) | refine z13 ?_ | refine z15 ?_ | refine z10 ?_ | refine z8 ?_ | refine z6 rfl ?_ | refine z12 ?_ | refine z3 ?_ | refine z16 ?_ | refine z11 ?_ | refine z4 ?_)
                  simp (maxSteps := 4000000) only [go_sem, hc0, hq]
                · have hnx : (s.carr.take (i + 1)).any carrBad = false := by
                    rw [List.take_add_one, hcc, Option.toList_some, List.any_append, hno]
                    simp [hc]
                  repeat (first | refine z14 ?_ | refine z9 ?_ | refine z7 ?_ | (refine z5 fun K hK => ?_; simp (maxSteps := 4000000) only [go_sem, hw]; refine hK _ ?_; clear hK K) | refine z13 ?_ | refine z15 ?_ | refine z10 ?_ | refine z8 ?_ | refine z6 rfl ?_ | refine z12 ?_ | refine z3 ?_ | refine z16 ?_ | refine z11 ?_ | refine z4 ?_)
                  refine ⟨rfl, i + 1, ?_, ⟨hlt, hnx⟩, by omega⟩
                  refine z19 [] ?_ ?_ rfl rfl <;> simp [lessT, lessM, lessB, AV.less]
            · have he : i = s.carr.length := by (have : ¬ i < s.carr.length := by simpa using hb); omega
              subst he
              rw [List.take_length] at hno
              have hq : carrsBad s = false := by rw [carrsBad, hc1, hno]; rfl
              repeat (first | refine z14 ?_ | refine z9 ?_ | refine z7 ?_ | (refine z5 fun K hK => ?_; simp (maxSteps := 4000000) only [go_sem]; refine hK _ ?_; clear hK K) | refine z13 ?_ | refine z15 ?_ | refine z10 ?_ | refine z8 ?_ | refine z6 rfl ?_ | refine z12 ?_ | refine z3 ?_ | refine z16 ?_ | refine z11 ?_ | refine z4 ?_)
              simp (maxSteps := 4000000) only [go_sem, hc0, hq]
  · rw [if_neg h0]
    have hz : (e != 0) = true := by simp [h0]
    repeat (first | refine z18 rfl ?_ | refine z17 rfl ?_ | refine z14 ?_ | refine z9 ?_ | refine z7 ?_ | (refine z5 fun K hK => ?_; simp (maxSteps := 4000000) only [go_sem, hz]; (repeat (first | (refine ⟨_, .lent (hf := h36) (hd := rfl) (hr := rfl), ?_⟩; simp (maxSteps := 4000000) only [go_sem, hz]) | (refine ⟨_, .given (hf := h36) (hd := rfl) (ha := rfl), ?_⟩; simp (maxSteps := 4000000) only [go_sem, hz]))); refine hK _ ?_; clear hK K) | refine z13 ?_ | refine z15 ?_ | refine z10 ?_ | refine z8 ?_ | refine z6 rfl ?_ | refine z12 ?_ | refine z3 ?_ | refine z16 ?_ | refine z11 ?_ | refine z4 ?_)
    simp (maxSteps := 4000000) only [go_sem]
def exS : Supply := ⟨exF, [], 30, 10, 60, ⟨5, 8⟩, [⟨20, 1, 7, ⟨40, 0, ⟨-5, 15⟩⟩⟩, ⟨15, 0, 4, ⟨200, 100, ⟨-50, 50⟩⟩⟩]⟩
end Go.Ab
namespace Go.Ab
open Go.RowKit Go.Proofs
set_option maxHeartbeats 8000000
set_option maxRecDepth 20000
attribute [local irreducible] WalkL Walk
def far6 (s : Supply) : Bool := far5 s.scen s.seen || (decide ((s.carr.length : Int) > 20) || (suppE s == 0 && (decide ((s.hours : Int) > 6) || (decide ((s.scen.length : Int) > 3) || decide ((s.carr.length : Int) > 2)))))
theorem z247 {s : Supply} (h : suppE s = 0) : lookF s.scen s.seen 0 true = 0 := by
  unfold suppE at h
  split at h
  · assumption
  · rename_i h1; exact absurd h h1
theorem zf27 (s : Supply) (hs : SuppSmall s) : Fn Tryz.prog 27 [.agg s.cells] (.bool (far6 s)) := by
  have h35 := zf54 s.scen s.seen hs.fore
  have h18 := zf55 s hs
  obtain ⟨e, he⟩ : ∃ e, e = suppE s := ⟨_, rfl⟩
  obtain ⟨q, hq⟩ : ∃ q, q = far5 s.scen s.seen := ⟨_, rfl⟩
  unfold far6
  rw [← he, ← hq]
  rw [← he] at h18
  rw [← hq] at h35
  rw [Supply.cells] at h18
  refine z21 36 Tryz.call27 Tryz.func27 rfl (by decide) fun J => ?_
  simp (maxSteps := 4000000) only [go_sem, St.start, Tryz.ntmps27, Tryz.results27, Supply.cells]
  cases q
  · cases q2 : decide ((s.carr.length : Int) > 20)
    · by_cases h0 : e = 0
      · have hz : (e == 0) = true := by simp [h0]
        have hlk := z247 (s := s) (by rw [← he]; exact h0)
        obtain ⟨hg, _⟩ := z152 hlk
        have hF := hg.scen
        have h19 := zf52 s.scen (hd0 s.scen) (z72 (by omega))
        have hh : s.hours = (hd0 s.scen).length := rfl
        obtain ⟨b3, hb3⟩ : ∃ b, b = decide ((s.hours : Int) > 6) := ⟨_, rfl⟩
        obtain ⟨b4, hb4⟩ : ∃ b, b = decide ((s.scen.length : Int) > 3) := ⟨_, rfl⟩
        rw [← hh] at h19
        rw [← hb3, ← hb4]
        have hb3' := hb3.symm
        have hb4' := hb4.symm
        cases b3 <;> cases b4
        all_goals
          repeat (first | refine z18 rfl ?_ | refine z17 rfl ?_ | refine z14 ?_ | refine z9 ?_ | refine z7 ?_ | (refine z5 fun K hK => ?_; simp (maxSteps := 4000000) only [go_sem, z25, z32, q2, hz, hb3', hb4']; (repeat (first | (refine ⟨_, .lent (hf := h35) (hd := rfl) (hr := rfl), ?_⟩; simp (maxSteps := 4000000) only [go_sem, z25, z32, q2, hz, hb3', hb4']) | (refine ⟨_, .lent (hf := h18) (hd := rfl) (hr := rfl), ?_⟩; simp (maxSteps := 4000000) only [go_sem, z25, z32, q2, hz, hb3', hb4']) | (refine ⟨_, .lent (hf := h19) (hd := rfl) (hr := rfl), ?_⟩; simp (maxSteps := 4000000) only [go_sem, z25, z32, q2, hz, hb3', hb4']) | (refine ⟨_, .given (hf := h35) (hd := rfl) (ha := rfl), ?_⟩; simp (maxSteps := 4000000) only [go_sem, z25, z32, q2, hz, hb3', hb4']) | (refine ⟨_, .given (hf := h18) (hd := rfl) (ha := rfl), ?_⟩; simp (maxSteps := 4000000) only [go_sem, z25, z32, q2, hz, hb3', hb4']) | (refine ⟨_, .given (hf := h19) (hd := rfl) (ha := rfl), ?_⟩; simp (maxSteps := 4000000) only [go_sem, z25, z32, q2, hz, hb3', hb4']))); refine hK _ ?_; clear hK K) | refine z13 ?_ | refine z15 ?_ | refine z10 ?_ | refine z8 ?_ | refine z6 rfl ?_ | refine z12 ?_ | refine z3 ?_ | refine z16 ?_ | refine z11 ?_ | refine z4 ?_)
          simp (maxSteps := 4000000) only [go_sem, hz, q2]
      · have hz : (e == 0) = false := by simp [h0]
        repeat (first | refine z18 rfl ?_ | refine z17 rfl ?_ | refine z14 ?_ | refine z9 ?_ | refine z7 ?_ | (refine z5 fun K hK => ?_; simp (maxSteps := 4000000) only [go_sem, z25, q2, hz]; (repeat (first | (refine ⟨_, .lent (hf := h35) (hd := rfl) (hr := rfl), ?_⟩; simp (maxSteps := 4000000) only [go_sem, z25, q2, hz]) | (refine ⟨_, .lent (hf := h18) (hd := rfl) (hr := rfl), ?_⟩; simp (maxSteps := 4000000) only [go_sem, z25, q2, hz]) | (refine ⟨_, .given (hf := h35) (hd := rfl) (ha := rfl), ?_⟩; simp (maxSteps := 4000000) only [go_sem, z25, q2, hz]) | (refine ⟨_, .given (hf := h18) (hd := rfl) (ha := rfl), ?_⟩; simp (maxSteps := 4000000) only [go_sem, z25, q2, hz]))); refine hK _ ?_; clear hK K) | refine z13 ?_ | refine z15 ?_ | refine z10 ?_ | refine z8 ?_ | refine z6 rfl ?_ | refine z12 ?_ | refine z3 ?_ | refine z16 ?_ | refine z11 ?_ | refine z4 ?_)
        simp (maxSteps := 4000000) only [go_sem, hz, q2]
    · repeat (first | refine z18 rfl ?_ | refine z17 rfl ?_ | refine z14 ?_ | refine z9 ?_ | refine z7 ?_ | (refine z5 fun K hK => ?_; simp (maxSteps := 4000000) only [go_sem, z25, q2]; (repeat (first | (refine ⟨_, .lent (hf := h35) (hd := rfl) (hr := rfl), ?_⟩; simp (maxSteps := 4000000) only [go_sem, z25, q2]) | (refine ⟨_, .given (hf := h35) (hd := rfl) (ha := rfl), ?_⟩; simp (maxSteps := 4000000) only [go_sem, z25, q2]))); refine hK _ ?_; clear hK K) | refine z13 ?_ | refine z15 ?_ | refine z10 ?_ | refine z8 ?_ | refine z6 rfl ?_ | refine z12 ?_ | refine z3 ?_ | refine z16 ?_ | refine z11 ?_ | refine z4 ?_)
      simp (maxSteps := 4000000) only [go_sem]
  · repeat (first | refine z18 rfl ?_ | refine z17 rfl ?_ | refine z14 ?_ | refine z9 ?_ | refine z7 ?_ | (refine z5 fun K hK => ?_; simp (maxSteps := 4000000) only [go_sem]; (repeat (first | (refine ⟨_, .lent (hf := h35) (hd := rfl) (hr := rfl), ?_⟩; simp (maxSteps := 4000000) only [go_sem]) | (refine ⟨_, .given (hf := h35) (hd := rfl) (ha := rfl), ?_⟩; simp (maxSteps := 4000000) only [go_sem]))); refine hK _ ?_; clear hK K) | refine z13 ?_ | refine z15 ?_ | refine z10 ?_ | refine z8 ?_ | refine z6 rfl ?_ | refine z12 ?_ | refine z3 ?_ | refine z16 ?_ | refine z11 ?_ | refine z4 ?_)
    simp (maxSteps := 4000000) only [go_sem]
def valid6 (s : Supply) : Bool := !far6 s && suppE s == 0
end Go.Ab
namespace Go.Ab
open Go.RowKit Go.Proofs
set_option maxHeartbeats 8000000
set_option maxRecDepth 20000
attribute [local irreducible] WalkL Walk
def askB (s : Supply) (c n : Int) : Bool := withinB c 0 ((s.carr.length : Int) - 1) && withinB n 1 48
def nextW (s : Supply) (c n : Int) : Int × Int × Int := windowF s.scen s.seen (s.carr.getD c.toNat ⟨0, 0, 0, ⟨0, 0, ⟨0, 0⟩⟩⟩).lim n
def nextE (s : Supply) (c n : Int) : Int := if (nextW s c n).2.2 = 0 ∧ (nextW s c n).2.1 < 0 then 3 else (nextW s c n).2.2
def nextP (s : Supply) (c n : Int) : Int × Bool × Int :=
  if openS6 s (askB s c n) = 0 then (if nextE s c n = 0 then ((nextW s c n).2.1, (nextW s c n).2.1 == 0 || decide (wr (s.stock - wr ((nextW s c n).2.1 * s.use.hi)) ≥ s.reserve), 0) else (0, false, nextE s c n)) else (0, false, openS6 s (askB s c n))
theorem zf18 (s : Supply) (c n : Int) (hs : SuppSmall s) : Fn Tryz.prog 18 [.agg s.cells, .i c, .i n] (.tup [.i (nextP s c n).1, .bool (nextP s c n).2.1, .i (nextP s c n).2.2]) := by
  have hcl := hs.carr
  have hw1 : IntKind.i64.wrap ((s.carr.length : Int) - 1) = s.carr.length - 1 := z23 (by omega)
  have k1 := zf39 c 0 ((s.carr.length : Int) - 1)
  have k2 := zf39 n 1 48
  have h25 := fun b => zf25n s b hs
  obtain ⟨a1, ha1⟩ : ∃ b, b = withinB c 0 ((s.carr.length : Int) - 1) := ⟨_, rfl⟩
  obtain ⟨a2, ha2⟩ : ∃ b, b = withinB n 1 48 := ⟨_, rfl⟩
  have hask : askB s c n = (a1 && a2) := by rw [askB, ← ha1, ← ha2]
  unfold nextP
  rw [hask]
  rw [← ha1] at k1
  rw [← ha2] at k2
  have h25a := h25 (a1 && a2)
  obtain ⟨e, he⟩ : ∃ e, e = openS6 s (a1 && a2) := ⟨_, rfl⟩
  rw [← he] at h25a ⊢
  simp only [Supply.cells] at h25a
  refine z21 73 Tryz.call18 Tryz.func18 rfl (by decide) fun J => ?_
  simp (maxSteps := 4000000) only [go_sem, St.start, Tryz.ntmps18, Tryz.results18, Supply.cells]
  by_cases h0 : e = 0
  · have hz : (e != 0) = false := by simp [h0]
    have htrue : a1 = true := by
      rw [he, openS6] at h0
      split at h0
      · split at h0
        · rename_i hb; simp at hb; exact hb.1
        · cases h0
      · rename_i hne; exact absurd h0 hne
    have htrue2 : a2 = true := by
      rw [he, openS6] at h0
      split at h0
      · split at h0
        · rename_i hb; simp at hb; exact hb.2
        · cases h0
      · rename_i hne; exact absurd h0 hne
    subst htrue; subst htrue2
    have hr := z27.1 ha1.symm
    obtain ⟨x, hx⟩ : ∃ x, s.carr[c.toNat]? = some x := ⟨_, List.getElem?_eq_getElem (by omega)⟩
    have gx := z128 hx
    rw [Carrier.row] at gx
    have h12 := zf40 s.scen s.seen x.lim n hs.fore hs.seen
    have hW : nextW s c n = windowF s.scen s.seen x.lim n := by rw [nextW, List.getD, hx]; rfl
    rw [← hW] at h12
    unfold nextE
    obtain ⟨W, hWW⟩ : ∃ W, W = nextW s c n := ⟨_, rfl⟩
    rw [← hWW] at h12 ⊢
    obtain ⟨w1, w2, w3⟩ := W
    dsimp only at h12 ⊢
    rw [Limits.row] at h12
    rw [if_pos h0, hutOf, hutRow] at h25a
    rw [if_pos h0]
    have hc0 : ¬ c < 0 := by omega
    have hcn : (c.toNat : Int) = c := by omega
    simp only [Bool.and_self] at h25a
    repeat (first | refine z14 ?_ | refine z9 ?_ | refine z7 ?_ | (refine z5 fun K hK => ?_; simp (maxSteps := 4000000) only [go_sem]; refine hK _ ?_; clear hK K) | refine z13 ?_ | refine z15 ?_ | refine z10 ?_ | refine z8 ?_ | refine z6 rfl ?_ | refine z12 ?_ | refine z3 ?_ | refine z16 ?_ | refine z11 ?_ | refine z4 ?_)
    refine z24 (by kernel_rfl) (by kernel_rfl) fun K hK => ?_
    simp (maxSteps := 4000000) only [go_sem, hw1, z25]
    refine ⟨_, .fn (hf := k1) (hd := rfl) (hr := .inl rfl), ?_⟩
    simp (maxSteps := 4000000) only [go_sem]
    refine ⟨_, .fn (hf := k2) (hd := rfl) (hr := .inl rfl), ?_⟩
    simp (maxSteps := 4000000) only [go_sem]
    refine ⟨_, .fn (hf := h25a) (hd := rfl) (hr := .inr rfl), ?_⟩
    simp (maxSteps := 4000000) only [go_sem]
    refine ⟨by kernel_rfl, hK _ ?_⟩
    clear hK K
    repeat (first | refine z18 rfl ?_ | refine z17 rfl ?_ | refine z14 ?_ | refine z9 ?_ | refine z7 ?_ | (refine z5 fun K hK => ?_; simp (maxSteps := 4000000) only [go_sem, hz]; refine hK _ ?_; clear hK K) | refine z13 ?_ | refine z15 ?_ | refine z10 ?_ | refine z8 ?_ | refine z6 rfl ?_ | refine z12 ?_ | refine z3 ?_ | refine z16 ?_ | refine z11 ?_ | refine z4 ?_)
    refine z24 (by kernel_rfl) (by kernel_rfl) fun K hK => ?_
    simp (maxSteps := 4000000) only [go_sem, gx, hr.1]
    refine ⟨_, .fn (hf := h12) (hd := rfl) (hr := .inl rfl), ?_⟩
    simp (maxSteps := 4000000) only [go_sem]
    refine ⟨by kernel_rfl, hK _ ?_⟩
    clear hK K
    by_cases c1 : w3 = 0
    · have q1 : (w3 == 0) = true := by simp [c1]
      have q2 : (w3 != 0) = false := by simp [c1]
      by_cases c2 : w2 < 0
      · have q3 : decide (w2 < 0) = true := decide_eq_true c2
        rw [if_pos (show w3 = 0 ∧ w2 < 0 from ⟨c1, c2⟩), if_neg (by decide)]
        repeat (first | refine z18 rfl ?_ | refine z17 rfl ?_ | refine z14 ?_ | refine z9 ?_ | refine z7 ?_ | (refine z5 fun K hK => ?_; simp (maxSteps := 4000000) only [go_sem, q1, q3]; refine hK _ ?_; clear hK K) | refine z13 ?_ | refine z15 ?_ | refine z10 ?_ | refine z8 ?_ | refine z6 rfl ?_ | refine z12 ?_ | refine z3 ?_ | refine z16 ?_ | refine z11 ?_ | refine z4 ?_)
        simp (maxSteps := 4000000) only [go_sem]
      · have q3 : decide (w2 < 0) = false := decide_eq_false c2
        rw [if_neg (show ¬ (w3 = 0 ∧ w2 < 0) from fun h => c2 h.2), if_pos c1]
        dsimp only
        repeat (first | refine z18 rfl ?_ | refine z17 rfl ?_ | refine z14 ?_ | refine z9 ?_ | refine z7 ?_ | (refine z5 fun K hK => ?_; simp (maxSteps := 4000000) only [go_sem, q1, q2, q3]; refine hK _ ?_; clear hK K) | refine z13 ?_ | refine z15 ?_ | refine z10 ?_ | refine z8 ?_ | refine z6 rfl ?_ | refine z12 ?_ | refine z3 ?_ | refine z16 ?_ | refine z11 ?_ | refine z4 ?_)
        cases q4 : (w2 == 0)
        · refine z24 (by kernel_rfl) (by kernel_rfl) fun K hK => ?_
          simp (maxSteps := 4000000) only [go_sem, q4]
          refine ⟨by kernel_rfl, hK _ ?_⟩
          clear hK K
          repeat (first | refine z18 rfl ?_ | refine z17 rfl ?_ | refine z14 ?_ | refine z9 ?_ | refine z7 ?_ | (refine z5 fun K hK => ?_; simp (maxSteps := 4000000) only [go_sem]; refine hK _ ?_; clear hK K) | refine z13 ?_ | refine z15 ?_ | refine z10 ?_ | refine z8 ?_ | refine z6 rfl ?_ | refine z12 ?_ | refine z3 ?_ | refine z16 ?_ | refine z11 ?_ | refine z4 ?_)
          simp (maxSteps := 4000000) only [go_sem]
        · refine z24 (by kernel_rfl) (by kernel_rfl) fun K hK => ?_
          simp (maxSteps := 4000000) only [go_sem, q4]
          refine ⟨by kernel_rfl, hK _ ?_⟩
          clear hK K
          repeat (first | refine z18 rfl ?_ | refine z17 rfl ?_ | refine z14 ?_ | refine z9 ?_ | refine z7 ?_ | (refine z5 fun K hK => ?_; simp (maxSteps := 4000000) only [go_sem]; refine hK _ ?_; clear hK K) | refine z13 ?_ | refine z15 ?_ | refine z10 ?_ | refine z8 ?_ | refine z6 rfl ?_ | refine z12 ?_ | refine z3 ?_ | refine z16 ?_ | refine z11 ?_ | refine z4 ?_)
          simp (maxSteps := 4000000) only [go_sem]
    · have q1 : (w3 == 0) = false := by simpa using c1
      have q2 : (w3 != 0) = true := by simpa using c1
      rw [if_neg (show ¬ (w3 = 0 ∧ w2 < 0) from fun h => c1 h.1), if_neg c1]
      repeat (first | refine z18 rfl ?_ | refine z17 rfl ?_ | refine z14 ?_ | refine z9 ?_ | refine z7 ?_ | (refine z5 fun K hK => ?_; simp (maxSteps := 4000000) only [go_sem, q1, q2]; refine hK _ ?_; clear hK K) | refine z13 ?_ | refine z15 ?_ | refine z10 ?_ | refine z8 ?_ | refine z6 rfl ?_ | refine z12 ?_ | refine z3 ?_ | refine z16 ?_ | refine z11 ?_ | refine z4 ?_)
      simp (maxSteps := 4000000) only [go_sem]
  · have hz : (e != 0) = true := by simp [h0]
    rw [if_neg h0] at h25a
    rw [if_neg h0]
    cases a1
    · simp only [Bool.false_and] at h25a
      repeat (first | refine z14 ?_ | refine z9 ?_ | refine z7 ?_ | (refine z5 fun K hK => ?_; simp (maxSteps := 4000000) only [go_sem]; refine hK _ ?_; clear hK K) | refine z13 ?_ | refine z15 ?_ | refine z10 ?_ | refine z8 ?_ | refine z6 rfl ?_ | refine z12 ?_ | refine z3 ?_ | refine z16 ?_ | refine z11 ?_ | refine z4 ?_)
      refine z24 (by kernel_rfl) (by kernel_rfl) fun K hK => ?_
      simp (maxSteps := 4000000) only [go_sem, hw1, z25]
      refine ⟨_, .fn (hf := k1) (hd := rfl) (hr := .inl rfl), ?_⟩
      simp (maxSteps := 4000000) only [go_sem]
      refine ⟨_, .fn (hf := h25a) (hd := rfl) (hr := .inl rfl), ?_⟩
      simp (maxSteps := 4000000) only [go_sem]
      refine ⟨by kernel_rfl, hK _ ?_⟩
      clear hK K
      repeat (first | refine z18 rfl ?_ | refine z17 rfl ?_ | refine z14 ?_ | refine z9 ?_ | refine z7 ?_ | (refine z5 fun K hK => ?_; simp (maxSteps := 4000000) only [go_sem, hz]; refine hK _ ?_; clear hK K) | refine z13 ?_ | refine z15 ?_ | refine z10 ?_ | refine z8 ?_ | refine z6 rfl ?_ | refine z12 ?_ | refine z3 ?_ | refine z16 ?_ | refine z11 ?_ | refine z4 ?_)
      simp (maxSteps := 4000000) only [go_sem]
    · simp only [Bool.true_and] at h25a
      repeat (first | refine z14 ?_ | refine z9 ?_ | refine z7 ?_ | (refine z5 fun K hK => ?_; simp (maxSteps := 4000000) only [go_sem]; refine hK _ ?_; clear hK K) | refine z13 ?_ | refine z15 ?_ | refine z10 ?_ | refine z8 ?_ | refine z6 rfl ?_ | refine z12 ?_ | refine z3 ?_ | refine z16 ?_ | refine z11 ?_ | refine z4 ?_)
      refine z24 (by kernel_rfl) (by kernel_rfl) fun K hK => ?_
      simp (maxSteps := 4000000) only [go_sem, hw1, z25]
      refine ⟨_, .fn (hf := k1) (hd := rfl) (hr := .inl rfl), ?_⟩
      simp (maxSteps := 4000000) only [go_sem]
      refine ⟨_, .fn (hf := k2) (hd := rfl) (hr := .inl rfl), ?_⟩
      simp (maxSteps := 4000000) only [go_sem]
      refine ⟨_, .fn (hf := h25a) (hd := rfl) (hr := .inl rfl), ?_⟩
      simp (maxSteps := 4000000) only [go_sem]
      refine ⟨by kernel_rfl, hK _ ?_⟩
      clear hK K
      repeat (first | refine z18 rfl ?_ | refine z17 rfl ?_ | refine z14 ?_ | refine z9 ?_ | refine z7 ?_ | (refine z5 fun K hK => ?_; simp (maxSteps := 4000000) only [go_sem, hz]; refine hK _ ?_; clear hK K) | refine z13 ?_ | refine z15 ?_ | refine z10 ?_ | refine z8 ?_ | refine z6 rfl ?_ | refine z12 ?_ | refine z3 ?_ | refine z16 ?_ | refine z11 ?_ | refine z4 ?_)
      simp (maxSteps := 4000000) only [go_sem]
end Go.Ab
namespace Go.Ab
open Go.RowKit Go.Proofs
set_option maxHeartbeats 8000000
set_option maxRecDepth 20000
attribute [local irreducible] WalkL Walk
end Go.Ab
namespace Go.Ab
open Go.RowKit Go.Proofs
set_option maxHeartbeats 8000000
set_option maxRecDepth 20000
attribute [local irreducible] WalkL Walk
def usesB (s : Supply) (l : List Int) : Bool := l.all (fun x => withinB x s.use.lo s.use.hi) && ((l.length : Int) == (s.hours : Int))
end Go.Ab
namespace Go.Ab
open Go.RowKit Go.Proofs
end Go.Ab
namespace Go.Ab
open Go.RowKit Go.Proofs
def Supply.more (s : Supply) (x : Sight) : Supply := { s with seen := s.seen ++ [x] }
end Go.Ab
namespace Go.Ab
open Go.RowKit Go.Proofs
set_option maxHeartbeats 8000000
set_option maxRecDepth 20000
attribute [local irreducible] WalkL Walk
structure Batch where
  good : Int
  amount : Int
  last : Int
def Batch.row (b : Batch) : List DV := [.i b.good, .i b.amount, .i b.last]
def batRows (l : List Batch) : List (List DV) := l.map Batch.row
structure Dish where
  needs : List Int
def Dish.row (d : Dish) : List DV := [.sl (intRows d.needs)]
def dishRows (l : List Dish) : List (List DV) := l.map Dish.row
structure Diners where
  no : Int
  count : Span
def Diners.row (d : Diners) : List DV := [.i d.no, .i d.count.lo, .i d.count.hi]
def dinRows (l : List Diners) : List (List DV) := l.map Diners.row
def dayRows (l : List (List Diners)) : List (List DV) := l.map fun d => [.sl (dinRows d)]
structure Kitchen where
  allerg : List Int
  batches : List Batch
  dishes : List Dish
  days : List (List Diners)
def Kitchen.cells (k : Kitchen) : List DV := [.sl (intRows k.allerg), .sl (batRows k.batches), .sl (dishRows k.dishes), .sl (dayRows k.days)]
theorem z286 (l : List Batch) : (batRows l).length = l.length := by simp [batRows]
theorem dishRows_len (l : List Dish) : (dishRows l).length = l.length := by simp [dishRows]
theorem dinRows_len (l : List Diners) : (dinRows l).length = l.length := by simp [dinRows]
theorem dayRows_len (l : List (List Diners)) : (dayRows l).length = l.length := by simp [dayRows]
theorem z205 {l : List Batch} {i : Nat} {x : Batch} (h : l[i]? = some x) : (batRows l)[i]? = some x.row := by simp [batRows, h]
theorem z102 {l : List Dish} {i : Nat} {x : Dish} (h : l[i]? = some x) : (dishRows l)[i]? = some x.row := by simp [dishRows, h]
theorem z114 {l : List Diners} {i : Nat} {x : Diners} (h : l[i]? = some x) : (dinRows l)[i]? = some x.row := by simp [dinRows, h]
theorem z77 {l : List (List Diners)} {i : Nat} {x : List Diners} (h : l[i]? = some x) : (dayRows l)[i]? = some [.sl (dinRows x)] := by simp [dayRows, h]
theorem batRows_head (l : List Batch) : headIs 3 (batRows l) = true := by cases l <;> rfl
attribute [go_sem] z286 dishRows_len dinRows_len dayRows_len z39
structure KitSmall (k : Kitchen) : Prop where
  allerg : k.allerg.length < 2 ^ 30
  batches : k.batches.length < 2 ^ 30
  dishes : k.dishes.length < 2 ^ 30
  needs : ∀ d ∈ k.dishes, d.needs.length < 2 ^ 30
  days : k.days.length < 2 ^ 30
  groups : ∀ d ∈ k.days, d.length < 2 ^ 30
end Go.Ab
namespace Go.Ab
open Go.RowKit Go.Proofs Go.ChangeShapes Go.WideShapes Go.Proofs.YtgjnckiifffneaaGreat
set_option linter.unusedVariables false
set_option maxRecDepth 100000
def threeS : List Sh := [iS, iS, iS]
theorem bat_of {N : Nat} {r : List DV} (h : Sh.fitsL N threeS r) : ∃ s : Batch, r = s.row ∧ True := by
  simp only [threeS, iS, Sh.fitsL, Sh.fits] at h
  obtain ⟨_, _, rfl, ⟨a, rfl, _⟩, _, _, rfl, ⟨b, rfl, _⟩, _, _, rfl, ⟨c, rfl, _⟩, rfl⟩ := h
  exact ⟨⟨a, b, c⟩, rfl, trivial⟩
theorem din_of {N : Nat} {r : List DV} (h : Sh.fitsL N threeS r) : ∃ s : Diners, r = s.row ∧ True := by
  simp only [threeS, iS, Sh.fitsL, Sh.fits] at h
  obtain ⟨_, _, rfl, ⟨a, rfl, _⟩, _, _, rfl, ⟨b, rfl, _⟩, _, _, rfl, ⟨c, rfl, _⟩, rfl⟩ := h
  exact ⟨⟨a, ⟨b, c⟩⟩, rfl, trivial⟩
theorem bats_of {N : Nat} {d : DV} (h : Sh.fits N (.sl threeS) d) : ∃ l : List Batch, d = .sl (batRows l) ∧ l.length ≤ N := by
  simp only [Sh.fits] at h
  obtain ⟨rows, rfl, hl, hr⟩ := h
  obtain ⟨l, rfl, _⟩ := z96 (fun r h => bat_of (hr r h))
  exact ⟨l, rfl, by simpa using hl⟩
theorem dish_of {N : Nat} {r : List DV} (h : Sh.fitsL N [.sl [iS]] r) : ∃ l : Dish, r = l.row ∧ l.needs.length ≤ N := by
  rw [Sh.fitsL] at h
  obtain ⟨d, _, rfl, h, h2⟩ := h
  rw [Sh.fitsL] at h2
  subst h2
  obtain ⟨l, rfl, hl⟩ := ints_of h
  exact ⟨⟨l⟩, rfl, hl⟩
theorem dishes_of {N : Nat} {d : DV} (h : Sh.fits N (.sl [.sl [iS]]) d) : ∃ l : List Dish, d = .sl (dishRows l) ∧ l.length ≤ N ∧ ∀ x ∈ l, x.needs.length ≤ N := by
  rw [Sh.fits] at h
  obtain ⟨rows, rfl, hl, hr⟩ := h
  obtain ⟨l, rfl, hq⟩ := z96 (row := Dish.row) (fun r h => dish_of (hr r h))
  exact ⟨l, rfl, by simpa using hl, hq⟩
theorem menu_of {N : Nat} {r : List DV} (h : Sh.fitsL N [.sl [iS]] r) : ∃ l : List Int, r = [.sl (intRows l)] ∧ l.length ≤ N := by
  rw [Sh.fitsL] at h
  obtain ⟨d, _, rfl, h, h2⟩ := h
  rw [Sh.fitsL] at h2
  subst h2
  obtain ⟨l, rfl, hl⟩ := ints_of h
  exact ⟨l, rfl, hl⟩
theorem menus_of {N : Nat} {d : DV} (h : Sh.fits N (.sl [.sl [iS]]) d) : ∃ l : List (List Int), d = .sl (listRows l) ∧ l.length ≤ N ∧ ∀ x ∈ l, x.length ≤ N := by
  rw [Sh.fits] at h
  obtain ⟨rows, rfl, hl, hr⟩ := h
  obtain ⟨l, rfl, hq⟩ := z96 (row := fun l : List Int => [DV.sl (intRows l)]) (fun r h => menu_of (hr r h))
  exact ⟨l, rfl, by simpa using hl, hq⟩
theorem dins_of {N : Nat} {r : List DV} (h : Sh.fitsL N [.sl threeS] r) : ∃ l : List Diners, r = [.sl (dinRows l)] ∧ l.length ≤ N := by
  rw [Sh.fitsL] at h
  obtain ⟨d, _, rfl, h, h2⟩ := h
  rw [Sh.fitsL] at h2
  subst h2
  rw [Sh.fits] at h
  obtain ⟨rows, rfl, hl, hr⟩ := h
  obtain ⟨l, rfl, _⟩ := z96 (fun r h => din_of (hr r h))
  exact ⟨l, rfl, by simpa using hl⟩
theorem days_of {N : Nat} {d : DV} (h : Sh.fits N (.sl [.sl threeS]) d) : ∃ l : List (List Diners), d = .sl (dayRows l) ∧ l.length ≤ N ∧ ∀ x ∈ l, x.length ≤ N := by
  rw [Sh.fits] at h
  obtain ⟨rows, rfl, hl, hr⟩ := h
  obtain ⟨l, rfl, hq⟩ := z96 (row := fun l : List Diners => [DV.sl (dinRows l)]) (fun r h => dins_of (hr r h))
  exact ⟨l, rfl, by simpa using hl, hq⟩
def kitS : List Sh := [.sl [iS], .sl threeS, .sl [.sl [iS]], .sl [.sl threeS]]
theorem kit_of {N : Nat} (hN : N < 2 ^ 29) {r : List DV} (h : Sh.fitsL N kitS r) : ∃ k : Kitchen, r = k.cells ∧ KitSmall k := by
  unfold kitS at h
  rw [Sh.fitsL] at h
  obtain ⟨x0, _, rfl, h0, h⟩ := h
  rw [Sh.fitsL] at h
  obtain ⟨x1, _, rfl, h1, h⟩ := h
  rw [Sh.fitsL] at h
  obtain ⟨x2, _, rfl, h2, h⟩ := h
  rw [Sh.fitsL] at h
  obtain ⟨x3, _, rfl, h3, h⟩ := h
  rw [Sh.fitsL] at h
  subst h
  obtain ⟨A, rfl, a1⟩ := ints_of h0
  obtain ⟨B, rfl, b1⟩ := bats_of h1
  obtain ⟨C, rfl, c1, c2⟩ := dishes_of h2
  obtain ⟨D, rfl, d1, d2⟩ := days_of h3
  refine ⟨⟨A, B, C, D⟩, rfl, ⟨?_, ?_, ?_, fun x hx => ?_, ?_, fun x hx => ?_⟩⟩
  · show A.length < 2 ^ 30
    omega
  · show B.length < 2 ^ 30
    omega
  · show C.length < 2 ^ 30
    omega
  · have := c2 x hx
    omega
  · show D.length < 2 ^ 30
    omega
  · have := d2 x hx
    omega
structure Stock where
  supp : Supply
  carrier : Int
  len : Int
def stockCells (b : Stock) : List DV := [.sl (scenRows b.supp.scen), .sl (sightRows b.supp.seen), .i b.supp.stock, .i b.supp.reserve, .i b.supp.room, .i b.supp.use.lo, .i b.supp.use.hi, .sl (carrRows b.supp.carr), .i b.carrier, .i b.len]
def stockS : List Sh := [.sl [.sl hourS], .sl sightS, iS, iS, iS, iS, iS, .sl carrS, iS, iS]
theorem fitsL_app {N : Nat} : ∀ {a b : List Sh} {r : List DV}, Sh.fitsL N (a ++ b) r → ∃ x y, r = x ++ y ∧ Sh.fitsL N a x ∧ Sh.fitsL N b y
  | [], b, r, h => ⟨[], r, rfl, by rw [Sh.fitsL], h⟩
  | s :: a, b, r, h => by
    rw [List.cons_append, Sh.fitsL] at h
    obtain ⟨d, t, rfl, h1, h2⟩ := h
    obtain ⟨x, y, rfl, hx, hy⟩ := fitsL_app h2
    exact ⟨d :: x, y, rfl, by rw [Sh.fitsL]; exact ⟨d, x, rfl, h1, hx⟩, hy⟩
theorem two_of {N : Nat} {r : List DV} (h : Sh.fitsL N [iS, iS] r) : ∃ a b : Int, r = [.i a, .i b] := by
  simp only [iS, Sh.fitsL, Sh.fits] at h
  obtain ⟨_, _, rfl, ⟨a, rfl, _⟩, _, _, rfl, ⟨b, rfl, _⟩, rfl⟩ := h
  exact ⟨a, b, rfl⟩
theorem stock_of {N : Nat} (hN : N < 2 ^ 29) {r : List DV} (h : Sh.fitsL N stockS r) : ∃ b : Stock, r = stockCells b ∧ SuppSmall b.supp ∧ b.supp.seen.length + 1 < 2 ^ 30 := by
  obtain ⟨x, y, rfl, h1, h2⟩ := fitsL_app (a := suppS) (b := [iS, iS]) h
  obtain ⟨p, rfl, hp, hp2⟩ := supp_of hN h1
  obtain ⟨a, b, rfl⟩ := two_of h2
  exact ⟨⟨p, a, b⟩, rfl, hp, hp2⟩
theorem kitSh : shapes Tryz.prog 20 27 = some kitS := by kernel_rfl
theorem menusSh : shapes Tryz.prog 20 28 = some [.sl [.sl [iS]]] := by kernel_rfl
theorem stockSh : shapes Tryz.prog 20 41 = some stockS := by kernel_rfl
theorem rdKit : Rd 27 (fun x => ∃ k : Kitchen, x = .agg k.cells ∧ KitSmall k) :=
  ⟨by kernel_rfl, of_decide_eq_true (by kernel_rfl), fun H enc w base v d ps _ h hd => by
    obtain ⟨ds, hf, hr⟩ := agg_read kitSh (by decide) h hd
    obtain ⟨p, rfl, hp⟩ := kit_of (by decide) hf
    exact ⟨_, ⟨p, rfl, hp⟩, hr⟩⟩
theorem rdMenus : Rd 28 (fun x => ∃ M : List (List Int), x = .sl (listRows M) ∧ M.length < 2 ^ 30 ∧ ∀ r ∈ M, r.length < 2 ^ 30) :=
  ⟨by kernel_rfl, of_decide_eq_true (by kernel_rfl), fun H enc w base v d ps hok h hd => by
    obtain ⟨a, len, cap, rfl⟩ := okWide_slice Tryz.underlying28 hok
    obtain ⟨x, hx, hr⟩ := one_read menusSh rfl h hd
    obtain ⟨l, rfl, hl, hl2⟩ := menus_of hx
    exact ⟨_, ⟨l, rfl, by omega, fun r hr => by have := hl2 r hr; omega⟩, hr⟩⟩
theorem rdStock : Rd 41 (fun x => ∃ b : Stock, x = .agg (stockCells b) ∧ SuppSmall b.supp ∧ b.supp.seen.length + 1 < 2 ^ 30) :=
  ⟨by kernel_rfl, of_decide_eq_true (by kernel_rfl), fun H enc w base v d ps _ h hd => by
    obtain ⟨ds, hf, hr⟩ := agg_read stockSh (by decide) h hd
    obtain ⟨p, rfl, hp⟩ := stock_of (by decide) hf
    exact ⟨_, ⟨p, rfl, hp⟩, hr⟩⟩
abbrev aQ : TypeId × (DV → Prop) := (27, fun x => ∃ k : Kitchen, x = .agg k.cells ∧ KitSmall k)
abbrev aM : TypeId × (DV → Prop) := (28, fun x => ∃ M : List (List Int), x = .sl (listRows M) ∧ M.length < 2 ^ 30 ∧ ∀ r ∈ M, r.length < 2 ^ 30)
abbrev aO : TypeId × (DV → Prop) := (41, fun x => ∃ b : Stock, x = .agg (stockCells b) ∧ SuppSmall b.supp ∧ b.supp.seen.length + 1 < 2 ^ 30)
end Go.Ab
namespace Go.Ab
open Go.RowKit Go.Proofs
set_option maxHeartbeats 8000000
set_option maxRecDepth 20000
attribute [local irreducible] WalkL Walk
theorem zf122 (s : Int) (g : Nat) (caps : List DV) (b : Bool) (hq : Fn Tryz.prog g (.i s :: caps) (.bool b)) : Fn Tryz.prog 122 [.i s, .ptr [.fn g caps] 0] (.bool (!b)) := by
  refine z21 8 Tryz.call122 Tryz.func122 rfl (by decide) fun J => ?_
  simp (maxSteps := 4000000) only [go_sem, St.start, Tryz.ntmps122, Tryz.results122]
  repeat (first | refine z14 ?_ | refine z9 ?_ | refine z7 ?_ | (refine z5 fun K hK => ?_; simp (maxSteps := 4000000) only [go_sem]; refine hK _ ?_; clear hK K) | refine z13 ?_ | refine z15 ?_ | refine z10 ?_ | refine z8 ?_ | refine z6 rfl ?_ | refine z12 ?_ | refine z3 ?_ | refine z16 ?_ | refine z11 ?_ | refine z4 ?_)
  refine z5 fun K hK => ?_
  simp (maxSteps := 4000000) only [go_sem]
  refine ⟨_, .lent (hf := hq) (hd := z28 _ _ _ _ rfl) (hr := rfl), ?_⟩
  simp (maxSteps := 4000000) only [go_sem]
  refine hK _ ?_
  clear hK K
  repeat (first | refine z14 ?_ | refine z9 ?_ | refine z7 ?_ | (refine z5 fun K hK => ?_; simp (maxSteps := 4000000) only [go_sem]; refine hK _ ?_; clear hK K) | refine z13 ?_ | refine z15 ?_ | refine z10 ?_ | refine z8 ?_ | refine z6 rfl ?_ | refine z12 ?_ | refine z3 ?_ | refine z16 ?_ | refine z11 ?_ | refine z4 ?_)
  simp (maxSteps := 4000000) only [go_sem]
theorem zf88 (xs : List Int) (g : Nat) (caps : List DV) (q : Int → Bool) (hq : ∀ s ∈ xs, Fn Tryz.prog g (.i s :: caps) (.bool (q s))) (hl : xs.length < 2 ^ 62) : Fn Tryz.prog 88 [.sl (intRows xs), .fn g caps] (.bool (xs.all q)) := by
  have h := zf121 xs 122 [.ptr [.fn g caps] 0] (fun s => !q s) (fun s hs => zf122 s g caps (q s) (hq s hs)) hl
  refine z21 9 Tryz.call88 Tryz.func88 rfl (by decide) fun J => ?_
  simp (maxSteps := 4000000) only [go_sem, St.start, Tryz.ntmps88, Tryz.results88]
  repeat (first | refine z14 ?_ | refine z9 ?_ | refine z7 ?_ | (refine z5 fun K hK => ?_; simp (maxSteps := 4000000) only [go_sem]; (repeat (first | (refine ⟨_, .lent (hf := h) (hd := rfl) (hr := rfl), ?_⟩; simp (maxSteps := 4000000) only [go_sem]) | (refine ⟨_, .given (hf := h) (hd := rfl) (ha := rfl), ?_⟩; simp (maxSteps := 4000000) only [go_sem]))); refine hK _ ?_; clear hK K) | refine z13 ?_ | refine z15 ?_ | refine z10 ?_ | refine z8 ?_ | refine z6 rfl ?_ | refine z12 ?_ | refine z3 ?_ | refine z16 ?_ | refine z11 ?_ | refine z4 ?_)
  simp (maxSteps := 4000000) only [go_sem, z132]
theorem zf161 (xs : List Batch) (g : Nat) (caps : List DV) (q : Batch → Bool) (hq : ∀ s ∈ xs, Fn Tryz.prog g (.agg s.row :: caps) (.bool (q s))) (hl : xs.length < 2 ^ 62) : Fn Tryz.prog 161 [.sl (batRows xs), .fn g caps] (.i (idxFrom q xs 0)) := by
  refine z21 19 Tryz.call161 Tryz.func161 rfl (by decide) fun J => ?_
  simp (maxSteps := 4000000) only [go_sem, St.start, Tryz.ntmps161, Tryz.results161]
  repeat (first | refine z14 ?_ | refine z9 ?_ | refine z7 ?_ | (refine z5 fun K hK => ?_; simp (maxSteps := 4000000) only [go_sem]; refine hK _ ?_; clear hK K) | refine z13 ?_ | refine z15 ?_ | refine z10 ?_ | refine z8 ?_ | refine z6 rfl ?_ | refine z12 ?_ | refine z3 ?_ | refine z16 ?_ | refine z11 ?_ | refine z4 ?_)
  refine z22 (fun (i : Nat) => [(8, .d (.i i))]) (fun _ => []) (fun i => i ≤ xs.length ∧ idxFrom q xs 0 = idxFrom q (xs.drop i) i) (fun i => xs.length - i) 0 ?_ ⟨Nat.zero_le _, rfl⟩ ?_
  · simp (maxSteps := 4000000) only [go_sem]
    refine z19 [] ?_ ?_ rfl rfl <;> simp [lessT, lessM, lessB, AV.less]
  · intro i ⟨hi, hq0⟩
    simp (maxSteps := 4000000) only [go_sem]
    repeat (first | refine z14 ?_ | refine z9 ?_ | refine z7 ?_ | (refine z5 fun K hK => ?_; simp (maxSteps := 4000000) only [go_sem]; refine hK _ ?_; clear hK K) | refine z13 ?_ | refine z15 ?_ | refine z10 ?_ | refine z8 ?_ | refine z6 rfl ?_ | refine z12 ?_ | refine z3 ?_ | refine z16 ?_ | refine z11 ?_ | refine z4 ?_)
    refine z20 rfl (fun hb => ?_) (fun hb => ?_)
    · have hlt : i < xs.length := by simpa using hb
      have hw : IntKind.i64.wrap ((i : Int) + 1) = ((i + 1 : Nat) : Int) := by rw [z23 (by omega)]; simp
      obtain ⟨s, hs⟩ : ∃ s, xs[i]? = some s := ⟨_, List.getElem?_eq_getElem hlt⟩
      rw [z30 hs, idxFrom] at hq0
      repeat (first | refine z14 ?_ | refine z9 ?_ | refine z7 ?_ | (refine z5 fun K hK => ?_; simp (maxSteps := 4000000) only [go_sem]; refine hK _ ?_; clear hK K) | refine z13 ?_ | refine z15 ?_ | refine z10 ?_ | refine z8 ?_ | refine z6 rfl ?_ | refine z12 ?_ | refine z3 ?_ | refine z16 ?_ | refine z11 ?_ | refine z4 ?_)
      refine z5 fun K hK => ?_
      simp (maxSteps := 4000000) only [go_sem, hs, List.getElem?_map, z205 hs, Batch.row, hw]
      refine ⟨_, .lent (hf := hq s (List.mem_of_getElem? hs)) (hd := z28 _ _ _ _ rfl) (hr := rfl), ?_⟩
      simp (maxSteps := 4000000) only [go_sem]
      refine hK _ ?_
      clear hK K
      refine z20 rfl (fun hc => ?_) (fun hc => ?_)
      · rw [hc, if_pos rfl] at hq0
        repeat (first | refine z14 ?_ | refine z9 ?_ | refine z7 ?_ | (refine z5 fun K hK => ?_; simp (maxSteps := 4000000) only [go_sem]; refine hK _ ?_; clear hK K) | refine z13 ?_ | refine z15 ?_ | refine z10 ?_ | refine z8 ?_ | refine z6 rfl ?_ | refine z12 ?_ | refine z3 ?_ | refine z16 ?_ | refine z11 ?_ | refine z4 ?_)
        simp (maxSteps := 4000000) only [go_sem, hq0]
      · rw [hc] at hq0
        repeat (first | refine z14 ?_ | refine z9 ?_ | refine z7 ?_ | (refine z5 fun K hK => ?_; simp (maxSteps := 4000000) only [go_sem, hw]; refine hK _ ?_; clear hK K) | refine z13 ?_ | refine z15 ?_ | refine z10 ?_ | refine z8 ?_ | refine z6 rfl ?_ | refine z12 ?_ | refine z3 ?_ | refine z16 ?_ | refine z11 ?_ | refine z4 ?_)
        refine ⟨rfl, i + 1, ?_, ⟨hlt, hq0⟩, by omega⟩
        refine z19 [] ?_ ?_ rfl rfl <;> simp [lessT, lessM, lessB, AV.less]
    · have he : i = xs.length := by (have : ¬ i < xs.length := by simpa using hb); omega
      subst he
      repeat (first | refine z14 ?_ | refine z9 ?_ | refine z7 ?_ | (refine z5 fun K hK => ?_; simp (maxSteps := 4000000) only [go_sem]; refine hK _ ?_; clear hK K) | refine z13 ?_ | refine z15 ?_ | refine z10 ?_ | refine z8 ?_ | refine z6 rfl ?_ | refine z12 ?_ | refine z3 ?_ | refine z16 ?_ | refine z11 ?_ | refine z4 ?_)
      simp (maxSteps := 4000000) only [go_sem, hq0, List.drop_length, idxFrom]
theorem zf125 (xs : List Batch) (g : Nat) (caps : List DV) (q : Batch → Bool) (hq : ∀ s ∈ xs, Fn Tryz.prog g (.agg s.row :: caps) (.bool (q s))) (hl : xs.length < 2 ^ 62) : Fn Tryz.prog 125 [.sl (batRows xs), .fn g caps] (.bool (xs.any q)) := by
  refine z21 9 Tryz.call125 Tryz.func125 rfl (by decide) fun J => ?_
  simp (maxSteps := 4000000) only [go_sem, St.start, Tryz.ntmps125, Tryz.results125]
  repeat (first | refine z14 ?_ | refine z9 ?_ | refine z7 ?_ | (refine z5 fun K hK => ?_; simp (maxSteps := 4000000) only [go_sem]; (repeat (first | (refine ⟨_, .lent (hf := zf161 xs g caps q hq hl) (hd := rfl) (hr := rfl), ?_⟩; simp (maxSteps := 4000000) only [go_sem]) | (refine ⟨_, .given (hf := zf161 xs g caps q hq hl) (hd := rfl) (ha := rfl), ?_⟩; simp (maxSteps := 4000000) only [go_sem]))); refine hK _ ?_; clear hK K) | refine z13 ?_ | refine z15 ?_ | refine z10 ?_ | refine z8 ?_ | refine z6 rfl ?_ | refine z12 ?_ | refine z3 ?_ | refine z16 ?_ | refine z11 ?_ | refine z4 ?_)
  simp (maxSteps := 4000000) only [go_sem, z34]
theorem zf126 (s : Batch) (g : Nat) (caps : List DV) (b : Bool) (hq : Fn Tryz.prog g (.agg s.row :: caps) (.bool b)) : Fn Tryz.prog 126 [.agg s.row, .ptr [.fn g caps] 0] (.bool (!b)) := by
  refine z21 8 Tryz.call126 Tryz.func126 rfl (by decide) fun J => ?_
  simp (maxSteps := 4000000) only [go_sem, St.start, Tryz.ntmps126, Tryz.results126, Batch.row]
  repeat (first | refine z14 ?_ | refine z9 ?_ | refine z7 ?_ | (refine z5 fun K hK => ?_; simp (maxSteps := 4000000) only [go_sem]; refine hK _ ?_; clear hK K) | refine z13 ?_ | refine z15 ?_ | refine z10 ?_ | refine z8 ?_ | refine z6 rfl ?_ | refine z12 ?_ | refine z3 ?_ | refine z16 ?_ | refine z11 ?_ | refine z4 ?_)
  refine z5 fun K hK => ?_
  simp (maxSteps := 4000000) only [go_sem]
  refine ⟨_, .lent (hf := hq) (hd := z28 _ _ _ _ rfl) (hr := rfl), ?_⟩
  simp (maxSteps := 4000000) only [go_sem]
  refine hK _ ?_
  clear hK K
  repeat (first | refine z14 ?_ | refine z9 ?_ | refine z7 ?_ | (refine z5 fun K hK => ?_; simp (maxSteps := 4000000) only [go_sem]; refine hK _ ?_; clear hK K) | refine z13 ?_ | refine z15 ?_ | refine z10 ?_ | refine z8 ?_ | refine z6 rfl ?_ | refine z12 ?_ | refine z3 ?_ | refine z16 ?_ | refine z11 ?_ | refine z4 ?_)
  simp (maxSteps := 4000000) only [go_sem]
theorem zf93 (xs : List Batch) (g : Nat) (caps : List DV) (q : Batch → Bool) (hq : ∀ s ∈ xs, Fn Tryz.prog g (.agg s.row :: caps) (.bool (q s))) (hl : xs.length < 2 ^ 62) : Fn Tryz.prog 93 [.sl (batRows xs), .fn g caps] (.bool (xs.all q)) := by
  have h := zf125 xs 126 [.ptr [.fn g caps] 0] (fun s => !q s) (fun s hs => zf126 s g caps (q s) (hq s hs)) hl
  refine z21 9 Tryz.call93 Tryz.func93 rfl (by decide) fun J => ?_
  simp (maxSteps := 4000000) only [go_sem, St.start, Tryz.ntmps93, Tryz.results93]
  repeat (first | refine z14 ?_ | refine z9 ?_ | refine z7 ?_ | (refine z5 fun K hK => ?_; simp (maxSteps := 4000000) only [go_sem]; (repeat (first | (refine ⟨_, .lent (hf := h) (hd := rfl) (hr := rfl), ?_⟩; simp (maxSteps := 4000000) only [go_sem]) | (refine ⟨_, .given (hf := h) (hd := rfl) (ha := rfl), ?_⟩; simp (maxSteps := 4000000) only [go_sem]))); refine hK _ ?_; clear hK K) | refine z13 ?_ | refine z15 ?_ | refine z10 ?_ | refine z8 ?_ | refine z6 rfl ?_ | refine z12 ?_ | refine z3 ?_ | refine z16 ?_ | refine z11 ?_ | refine z4 ?_)
  simp (maxSteps := 4000000) only [go_sem, z132]
theorem zf162 (xs : List Dish) (g : Nat) (caps : List DV) (q : Dish → Bool) (hq : ∀ s ∈ xs, Fn Tryz.prog g (.agg s.row :: caps) (.bool (q s))) (hl : xs.length < 2 ^ 62) : Fn Tryz.prog 162 [.sl (dishRows xs), .fn g caps] (.i (idxFrom q xs 0)) := by
  refine z21 19 Tryz.call162 Tryz.func162 rfl (by decide) fun J => ?_
  simp (maxSteps := 4000000) only [go_sem, St.start, Tryz.ntmps162, Tryz.results162]
  repeat (first | refine z14 ?_ | refine z9 ?_ | refine z7 ?_ | (refine z5 fun K hK => ?_; simp (maxSteps := 4000000) only [go_sem]; refine hK _ ?_; clear hK K) | refine z13 ?_ | refine z15 ?_ | refine z10 ?_ | refine z8 ?_ | refine z6 rfl ?_ | refine z12 ?_ | refine z3 ?_ | refine z16 ?_ | refine z11 ?_ | refine z4 ?_)
  refine z22 (fun (i : Nat) => [(8, .d (.i i))]) (fun _ => []) (fun i => i ≤ xs.length ∧ idxFrom q xs 0 = idxFrom q (xs.drop i) i) (fun i => xs.length - i) 0 ?_ ⟨Nat.zero_le _, rfl⟩ ?_
  · simp (maxSteps := 4000000) only [go_sem]
    refine z19 [] ?_ ?_ rfl rfl <;> simp [lessT, lessM, lessB, AV.less]
  · intro i ⟨hi, hq0⟩
    simp (maxSteps := 4000000) only [go_sem]
    repeat (first | refine z14 ?_ | refine z9 ?_ | refine z7 ?_ | (refine z5 fun K hK => ?_; simp (maxSteps := 4000000) only [go_sem]; refine hK _ ?_; clear hK K) | refine z13 ?_ | refine z15 ?_ | refine z10 ?_ | refine z8 ?_ | refine z6 rfl ?_ | refine z12 ?_ | refine z3 ?_ | refine z16 ?_ | refine z11 ?_ | refine z4 ?_)
    refine z20 rfl (fun hb => ?_) (fun hb => ?_)
    · have hlt : i < xs.length := by simpa using hb
      have hw : IntKind.i64.wrap ((i : Int) + 1) = ((i + 1 : Nat) : Int) := by rw [z23 (by omega)]; simp
      obtain ⟨s, hs⟩ : ∃ s, xs[i]? = some s := ⟨_, List.getElem?_eq_getElem hlt⟩
      rw [z30 hs, idxFrom] at hq0
      repeat (first | refine z14 ?_ | refine z9 ?_ | refine z7 ?_ | (refine z5 fun K hK => ?_; simp (maxSteps := 4000000) only [go_sem]; refine hK _ ?_; clear hK K) | refine z13 ?_ | refine z15 ?_ | refine z10 ?_ | refine z8 ?_ | refine z6 rfl ?_ | refine z12 ?_ | refine z3 ?_ | refine z16 ?_ | refine z11 ?_ | refine z4 ?_)
      refine z5 fun K hK => ?_
      simp (maxSteps := 4000000) only [go_sem, hs, List.getElem?_map, z102 hs, Dish.row, hw]
      refine ⟨_, .lent (hf := hq s (List.mem_of_getElem? hs)) (hd := z28 _ _ _ _ rfl) (hr := rfl), ?_⟩
      simp (maxSteps := 4000000) only [go_sem]
      refine hK _ ?_
      clear hK K
      refine z20 rfl (fun hc => ?_) (fun hc => ?_)
      · rw [hc, if_pos rfl] at hq0
        repeat (first | refine z14 ?_ | refine z9 ?_ | refine z7 ?_ | (refine z5 fun K hK => ?_; simp (maxSteps := 4000000) only [go_sem]; refine hK _ ?_; clear hK K) | refine z13 ?_ | refine z15 ?_ | refine z10 ?_ | refine z8 ?_ | refine z6 rfl ?_ | refine z12 ?_ | refine z3 ?_ | refine z16 ?_ | refine z11 ?_ | refine z4 ?_)
        simp (maxSteps := 4000000) only [go_sem, hq0]
      · rw [hc] at hq0
        repeat (first | refine z14 ?_ | refine z9 ?_ | refine z7 ?_ | (refine z5 fun K hK => ?_; simp (maxSteps := 4000000) only [go_sem, hw]; refine hK _ ?_; clear hK K) | refine z13 ?_ | refine z15 ?_ | refine z10 ?_ | refine z8 ?_ | refine z6 rfl ?_ | refine z12 ?_ | refine z3 ?_ | refine z16 ?_ | refine z11 ?_ | refine z4 ?_)
        refine ⟨rfl, i + 1, ?_, ⟨hlt, hq0⟩, by omega⟩
        refine z19 [] ?_ ?_ rfl rfl <;> simp [lessT, lessM, lessB, AV.less]
    · have he : i = xs.length := by (have : ¬ i < xs.length := by simpa using hb); omega
      subst he
      repeat (first | refine z14 ?_ | refine z9 ?_ | refine z7 ?_ | (refine z5 fun K hK => ?_; simp (maxSteps := 4000000) only [go_sem]; refine hK _ ?_; clear hK K) | refine z13 ?_ | refine z15 ?_ | refine z10 ?_ | refine z8 ?_ | refine z6 rfl ?_ | refine z12 ?_ | refine z3 ?_ | refine z16 ?_ | refine z11 ?_ | refine z4 ?_)
      simp (maxSteps := 4000000) only [go_sem, hq0, List.drop_length, idxFrom]
theorem zf127 (xs : List Dish) (g : Nat) (caps : List DV) (q : Dish → Bool) (hq : ∀ s ∈ xs, Fn Tryz.prog g (.agg s.row :: caps) (.bool (q s))) (hl : xs.length < 2 ^ 62) : Fn Tryz.prog 127 [.sl (dishRows xs), .fn g caps] (.bool (xs.any q)) := by
  refine z21 9 Tryz.call127 Tryz.func127 rfl (by decide) fun J => ?_
  simp (maxSteps := 4000000) only [go_sem, St.start, Tryz.ntmps127, Tryz.results127]
  repeat (first | refine z14 ?_ | refine z9 ?_ | refine z7 ?_ | (refine z5 fun K hK => ?_; simp (maxSteps := 4000000) only [go_sem]; (repeat (first | (refine ⟨_, .lent (hf := zf162 xs g caps q hq hl) (hd := rfl) (hr := rfl), ?_⟩; simp (maxSteps := 4000000) only [go_sem]) | (refine ⟨_, .given (hf := zf162 xs g caps q hq hl) (hd := rfl) (ha := rfl), ?_⟩; simp (maxSteps := 4000000) only [go_sem]))); refine hK _ ?_; clear hK K) | refine z13 ?_ | refine z15 ?_ | refine z10 ?_ | refine z8 ?_ | refine z6 rfl ?_ | refine z12 ?_ | refine z3 ?_ | refine z16 ?_ | refine z11 ?_ | refine z4 ?_)
  simp (maxSteps := 4000000) only [go_sem, z34]
theorem zf128 (s : Dish) (g : Nat) (caps : List DV) (b : Bool) (hq : Fn Tryz.prog g (.agg s.row :: caps) (.bool b)) : Fn Tryz.prog 128 [.agg s.row, .ptr [.fn g caps] 0] (.bool (!b)) := by
  refine z21 8 Tryz.call128 Tryz.func128 rfl (by decide) fun J => ?_
  simp (maxSteps := 4000000) only [go_sem, St.start, Tryz.ntmps128, Tryz.results128, Dish.row]
  repeat (first | refine z14 ?_ | refine z9 ?_ | refine z7 ?_ | (refine z5 fun K hK => ?_; simp (maxSteps := 4000000) only [go_sem]; refine hK _ ?_; clear hK K) | refine z13 ?_ | refine z15 ?_ | refine z10 ?_ | refine z8 ?_ | refine z6 rfl ?_ | refine z12 ?_ | refine z3 ?_ | refine z16 ?_ | refine z11 ?_ | refine z4 ?_)
  refine z5 fun K hK => ?_
  simp (maxSteps := 4000000) only [go_sem]
  refine ⟨_, .lent (hf := hq) (hd := z28 _ _ _ _ rfl) (hr := rfl), ?_⟩
  simp (maxSteps := 4000000) only [go_sem]
  refine hK _ ?_
  clear hK K
  repeat (first | refine z14 ?_ | refine z9 ?_ | refine z7 ?_ | (refine z5 fun K hK => ?_; simp (maxSteps := 4000000) only [go_sem]; refine hK _ ?_; clear hK K) | refine z13 ?_ | refine z15 ?_ | refine z10 ?_ | refine z8 ?_ | refine z6 rfl ?_ | refine z12 ?_ | refine z3 ?_ | refine z16 ?_ | refine z11 ?_ | refine z4 ?_)
  simp (maxSteps := 4000000) only [go_sem]
theorem zf94 (xs : List Dish) (g : Nat) (caps : List DV) (q : Dish → Bool) (hq : ∀ s ∈ xs, Fn Tryz.prog g (.agg s.row :: caps) (.bool (q s))) (hl : xs.length < 2 ^ 62) : Fn Tryz.prog 94 [.sl (dishRows xs), .fn g caps] (.bool (xs.all q)) := by
  have h := zf127 xs 128 [.ptr [.fn g caps] 0] (fun s => !q s) (fun s hs => zf128 s g caps (q s) (hq s hs)) hl
  refine z21 9 Tryz.call94 Tryz.func94 rfl (by decide) fun J => ?_
  simp (maxSteps := 4000000) only [go_sem, St.start, Tryz.ntmps94, Tryz.results94]
  repeat (first | refine z14 ?_ | refine z9 ?_ | refine z7 ?_ | (refine z5 fun K hK => ?_; simp (maxSteps := 4000000) only [go_sem]; (repeat (first | (refine ⟨_, .lent (hf := h) (hd := rfl) (hr := rfl), ?_⟩; simp (maxSteps := 4000000) only [go_sem]) | (refine ⟨_, .given (hf := h) (hd := rfl) (ha := rfl), ?_⟩; simp (maxSteps := 4000000) only [go_sem]))); refine hK _ ?_; clear hK K) | refine z13 ?_ | refine z15 ?_ | refine z10 ?_ | refine z8 ?_ | refine z6 rfl ?_ | refine z12 ?_ | refine z3 ?_ | refine z16 ?_ | refine z11 ?_ | refine z4 ?_)
  simp (maxSteps := 4000000) only [go_sem, z132]
theorem zf160 (xs : List Diners) (g : Nat) (caps : List DV) (q : Diners → Bool) (hq : ∀ s ∈ xs, Fn Tryz.prog g (.agg s.row :: caps) (.bool (q s))) (hl : xs.length < 2 ^ 62) : Fn Tryz.prog 160 [.sl (dinRows xs), .fn g caps] (.i (idxFrom q xs 0)) := by
  refine z21 19 Tryz.call160 Tryz.func160 rfl (by decide) fun J => ?_
  simp (maxSteps := 4000000) only [go_sem, St.start, Tryz.ntmps160, Tryz.results160]
  repeat (first | refine z14 ?_ | refine z9 ?_ | refine z7 ?_ | (refine z5 fun K hK => ?_; simp (maxSteps := 4000000) only [go_sem]; refine hK _ ?_; clear hK K) | refine z13 ?_ | refine z15 ?_ | refine z10 ?_ | refine z8 ?_ | refine z6 rfl ?_ | refine z12 ?_ | refine z3 ?_ | refine z16 ?_ | refine z11 ?_ | refine z4 ?_)
  refine z22 (fun (i : Nat) => [(8, .d (.i i))]) (fun _ => []) (fun i => i ≤ xs.length ∧ idxFrom q xs 0 = idxFrom q (xs.drop i) i) (fun i => xs.length - i) 0 ?_ ⟨Nat.zero_le _, rfl⟩ ?_
  · simp (maxSteps := 4000000) only [go_sem]
    refine z19 [] ?_ ?_ rfl rfl <;> simp [lessT, lessM, lessB, AV.less]
  · intro i ⟨hi, hq0⟩
    simp (maxSteps := 4000000) only [go_sem]
    repeat (first | refine z14 ?_ | refine z9 ?_ | refine z7 ?_ | (refine z5 fun K hK => ?_; simp (maxSteps := 4000000) only [go_sem]; refine hK _ ?_; clear hK K) | refine z13 ?_ | refine z15 ?_ | refine z10 ?_ | refine z8 ?_ | refine z6 rfl ?_ | refine z12 ?_ | refine z3 ?_ | refine z16 ?_ | refine z11 ?_ | refine z4 ?_)
    refine z20 rfl (fun hb => ?_) (fun hb => ?_)
    · have hlt : i < xs.length := by simpa using hb
      have hw : IntKind.i64.wrap ((i : Int) + 1) = ((i + 1 : Nat) : Int) := by rw [z23 (by omega)]; simp
      obtain ⟨s, hs⟩ : ∃ s, xs[i]? = some s := ⟨_, List.getElem?_eq_getElem hlt⟩
      rw [z30 hs, idxFrom] at hq0
      repeat (first | refine z14 ?_ | refine z9 ?_ | refine z7 ?_ | (refine z5 fun K hK => ?_; simp (maxSteps := 4000000) only [go_sem]; refine hK _ ?_; clear hK K) | refine z13 ?_ | refine z15 ?_ | refine z10 ?_ | refine z8 ?_ | refine z6 rfl ?_ | refine z12 ?_ | refine z3 ?_ | refine z16 ?_ | refine z11 ?_ | refine z4 ?_)
      refine z5 fun K hK => ?_
      simp (maxSteps := 4000000) only [go_sem, hs, List.getElem?_map, z114 hs, Diners.row, hw]
      refine ⟨_, .lent (hf := hq s (List.mem_of_getElem? hs)) (hd := z28 _ _ _ _ rfl) (hr := rfl), ?_⟩
      simp (maxSteps := 4000000) only [go_sem]
      refine hK _ ?_
      clear hK K
      refine z20 rfl (fun hc => ?_) (fun hc => ?_)
      · rw [hc, if_pos rfl] at hq0
        repeat (first | refine z14 ?_ | refine z9 ?_ | refine z7 ?_ | (refine z5 fun K hK => ?_; simp (maxSteps := 4000000) only [go_sem]; refine hK _ ?_; clear hK K) | refine z13 ?_ | refine z15 ?_ | refine z10 ?_ | refine z8 ?_ | refine z6 rfl ?_ | refine z12 ?_ | refine z3 ?_ | refine z16 ?_ | refine z11 ?_ | refine z4 ?_)
        simp (maxSteps := 4000000) only [go_sem, hq0]
      · rw [hc] at hq0
        repeat (first | refine z14 ?_ | refine z9 ?_ | refine z7 ?_ | (refine z5 fun K hK => ?_; simp (maxSteps := 4000000) only [go_sem, hw]; refine hK _ ?_; clear hK K) | refine z13 ?_ | refine z15 ?_ | refine z10 ?_ | refine z8 ?_ | refine z6 rfl ?_ | refine z12 ?_ | refine z3 ?_ | refine z16 ?_ | refine z11 ?_ | refine z4 ?_)
        refine ⟨rfl, i + 1, ?_, ⟨hlt, hq0⟩, by omega⟩
        refine z19 [] ?_ ?_ rfl rfl <;> simp [lessT, lessM, lessB, AV.less]
    · have he : i = xs.length := by (have : ¬ i < xs.length := by simpa using hb); omega
      subst he
      repeat (first | refine z14 ?_ | refine z9 ?_ | refine z7 ?_ | (refine z5 fun K hK => ?_; simp (maxSteps := 4000000) only [go_sem]; refine hK _ ?_; clear hK K) | refine z13 ?_ | refine z15 ?_ | refine z10 ?_ | refine z8 ?_ | refine z6 rfl ?_ | refine z12 ?_ | refine z3 ?_ | refine z16 ?_ | refine z11 ?_ | refine z4 ?_)
      simp (maxSteps := 4000000) only [go_sem, hq0, List.drop_length, idxFrom]
theorem zf123 (xs : List Diners) (g : Nat) (caps : List DV) (q : Diners → Bool) (hq : ∀ s ∈ xs, Fn Tryz.prog g (.agg s.row :: caps) (.bool (q s))) (hl : xs.length < 2 ^ 62) : Fn Tryz.prog 123 [.sl (dinRows xs), .fn g caps] (.bool (xs.any q)) := by
  refine z21 9 Tryz.call123 Tryz.func123 rfl (by decide) fun J => ?_
  simp (maxSteps := 4000000) only [go_sem, St.start, Tryz.ntmps123, Tryz.results123]
  repeat (first | refine z14 ?_ | refine z9 ?_ | refine z7 ?_ | (refine z5 fun K hK => ?_; simp (maxSteps := 4000000) only [go_sem]; (repeat (first | (refine ⟨_, .lent (hf := zf160 xs g caps q hq hl) (hd := rfl) (hr := rfl), ?_⟩; simp (maxSteps := 4000000) only [go_sem]) | (refine ⟨_, .given (hf := zf160 xs g caps q hq hl) (hd := rfl) (ha := rfl), ?_⟩; simp (maxSteps := 4000000) only [go_sem]))); refine hK _ ?_; clear hK K) | refine z13 ?_ | refine z15 ?_ | refine z10 ?_ | refine z8 ?_ | refine z6 rfl ?_ | refine z12 ?_ | refine z3 ?_ | refine z16 ?_ | refine z11 ?_ | refine z4 ?_)
  simp (maxSteps := 4000000) only [go_sem, z34]
theorem zf124 (s : Diners) (g : Nat) (caps : List DV) (b : Bool) (hq : Fn Tryz.prog g (.agg s.row :: caps) (.bool b)) : Fn Tryz.prog 124 [.agg s.row, .ptr [.fn g caps] 0] (.bool (!b)) := by
  refine z21 8 Tryz.call124 Tryz.func124 rfl (by decide) fun J => ?_
  simp (maxSteps := 4000000) only [go_sem, St.start, Tryz.ntmps124, Tryz.results124, Diners.row]
  repeat (first | refine z14 ?_ | refine z9 ?_ | refine z7 ?_ | (refine z5 fun K hK => ?_; simp (maxSteps := 4000000) only [go_sem]; refine hK _ ?_; clear hK K) | refine z13 ?_ | refine z15 ?_ | refine z10 ?_ | refine z8 ?_ | refine z6 rfl ?_ | refine z12 ?_ | refine z3 ?_ | refine z16 ?_ | refine z11 ?_ | refine z4 ?_)
  refine z5 fun K hK => ?_
  simp (maxSteps := 4000000) only [go_sem]
  refine ⟨_, .lent (hf := hq) (hd := z28 _ _ _ _ rfl) (hr := rfl), ?_⟩
  simp (maxSteps := 4000000) only [go_sem]
  refine hK _ ?_
  clear hK K
  repeat (first | refine z14 ?_ | refine z9 ?_ | refine z7 ?_ | (refine z5 fun K hK => ?_; simp (maxSteps := 4000000) only [go_sem]; refine hK _ ?_; clear hK K) | refine z13 ?_ | refine z15 ?_ | refine z10 ?_ | refine z8 ?_ | refine z6 rfl ?_ | refine z12 ?_ | refine z3 ?_ | refine z16 ?_ | refine z11 ?_ | refine z4 ?_)
  simp (maxSteps := 4000000) only [go_sem]
theorem zf92 (xs : List Diners) (g : Nat) (caps : List DV) (q : Diners → Bool) (hq : ∀ s ∈ xs, Fn Tryz.prog g (.agg s.row :: caps) (.bool (q s))) (hl : xs.length < 2 ^ 62) : Fn Tryz.prog 92 [.sl (dinRows xs), .fn g caps] (.bool (xs.all q)) := by
  have h := zf123 xs 124 [.ptr [.fn g caps] 0] (fun s => !q s) (fun s hs => zf124 s g caps (q s) (hq s hs)) hl
  refine z21 9 Tryz.call92 Tryz.func92 rfl (by decide) fun J => ?_
  simp (maxSteps := 4000000) only [go_sem, St.start, Tryz.ntmps92, Tryz.results92]
  repeat (first | refine z14 ?_ | refine z9 ?_ | refine z7 ?_ | (refine z5 fun K hK => ?_; simp (maxSteps := 4000000) only [go_sem]; (repeat (first | (refine ⟨_, .lent (hf := h) (hd := rfl) (hr := rfl), ?_⟩; simp (maxSteps := 4000000) only [go_sem]) | (refine ⟨_, .given (hf := h) (hd := rfl) (ha := rfl), ?_⟩; simp (maxSteps := 4000000) only [go_sem]))); refine hK _ ?_; clear hK K) | refine z13 ?_ | refine z15 ?_ | refine z10 ?_ | refine z8 ?_ | refine z6 rfl ?_ | refine z12 ?_ | refine z3 ?_ | refine z16 ?_ | refine z11 ?_ | refine z4 ?_)
  simp (maxSteps := 4000000) only [go_sem, z132]
theorem zf163 (xs : List (List Diners)) (g : Nat) (caps : List DV) (q : (List Diners) → Bool) (hq : ∀ s ∈ xs, Fn Tryz.prog g (.sl (dinRows s) :: caps) (.bool (q s))) (hl : xs.length < 2 ^ 62) : Fn Tryz.prog 163 [.sl (dayRows xs), .fn g caps] (.i (idxFrom q xs 0)) := by
  refine z21 19 Tryz.call163 Tryz.func163 rfl (by decide) fun J => ?_
  simp (maxSteps := 4000000) only [go_sem, St.start, Tryz.ntmps163, Tryz.results163]
  repeat (first | refine z14 ?_ | refine z9 ?_ | refine z7 ?_ | (refine z5 fun K hK => ?_; simp (maxSteps := 4000000) only [go_sem]; refine hK _ ?_; clear hK K) | refine z13 ?_ | refine z15 ?_ | refine z10 ?_ | refine z8 ?_ | refine z6 rfl ?_ | refine z12 ?_ | refine z3 ?_ | refine z16 ?_ | refine z11 ?_ | refine z4 ?_)
  refine z22 (fun (i : Nat) => [(8, .d (.i i))]) (fun _ => []) (fun i => i ≤ xs.length ∧ idxFrom q xs 0 = idxFrom q (xs.drop i) i) (fun i => xs.length - i) 0 ?_ ⟨Nat.zero_le _, rfl⟩ ?_
  · simp (maxSteps := 4000000) only [go_sem]
    refine z19 [] ?_ ?_ rfl rfl <;> simp [lessT, lessM, lessB, AV.less]
  · intro i ⟨hi, hq0⟩
    simp (maxSteps := 4000000) only [go_sem]
    repeat (first | refine z14 ?_ | refine z9 ?_ | refine z7 ?_ | (refine z5 fun K hK => ?_; simp (maxSteps := 4000000) only [go_sem]; refine hK _ ?_; clear hK K) | refine z13 ?_ | refine z15 ?_ | refine z10 ?_ | refine z8 ?_ | refine z6 rfl ?_ | refine z12 ?_ | refine z3 ?_ | refine z16 ?_ | refine z11 ?_ | refine z4 ?_)
    refine z20 rfl (fun hb => ?_) (fun hb => ?_)
    · have hlt : i < xs.length := by simpa using hb
      have hw : IntKind.i64.wrap ((i : Int) + 1) = ((i + 1 : Nat) : Int) := by rw [z23 (by omega)]; simp
      obtain ⟨s, hs⟩ : ∃ s, xs[i]? = some s := ⟨_, List.getElem?_eq_getElem hlt⟩
      rw [z30 hs, idxFrom] at hq0
      repeat (first | refine z14 ?_ | refine z9 ?_ | refine z7 ?_ | (refine z5 fun K hK => ?_; simp (maxSteps := 4000000) only [go_sem]; refine hK _ ?_; clear hK K) | refine z13 ?_ | refine z15 ?_ | refine z10 ?_ | refine z8 ?_ | refine z6 rfl ?_ | refine z12 ?_ | refine z3 ?_ | refine z16 ?_ | refine z11 ?_ | refine z4 ?_)
      refine z5 fun K hK => ?_
      simp (maxSteps := 4000000) only [go_sem, hs, List.getElem?_map, z77 hs, hw]
      refine ⟨_, .lent (hf := hq s (List.mem_of_getElem? hs)) (hd := z28 _ _ _ _ rfl) (hr := rfl), ?_⟩
      simp (maxSteps := 4000000) only [go_sem]
      refine hK _ ?_
      clear hK K
      refine z20 rfl (fun hc => ?_) (fun hc => ?_)
      · rw [hc, if_pos rfl] at hq0
        repeat (first | refine z14 ?_ | refine z9 ?_ | refine z7 ?_ | (refine z5 fun K hK => ?_; simp (maxSteps := 4000000) only [go_sem]; refine hK _ ?_; clear hK K) | refine z13 ?_ | refine z15 ?_ | refine z10 ?_ | refine z8 ?_ | refine z6 rfl ?_ | refine z12 ?_ | refine z3 ?_ | refine z16 ?_ | refine z11 ?_ | refine z4 ?_)
        simp (maxSteps := 4000000) only [go_sem, hq0]
      · rw [hc] at hq0
        repeat (first | refine z14 ?_ | refine z9 ?_ | refine z7 ?_ | (refine z5 fun K hK => ?_; simp (maxSteps := 4000000) only [go_sem, hw]; refine hK _ ?_; clear hK K) | refine z13 ?_ | refine z15 ?_ | refine z10 ?_ | refine z8 ?_ | refine z6 rfl ?_ | refine z12 ?_ | refine z3 ?_ | refine z16 ?_ | refine z11 ?_ | refine z4 ?_)
        refine ⟨rfl, i + 1, ?_, ⟨hlt, hq0⟩, by omega⟩
        refine z19 [] ?_ ?_ rfl rfl <;> simp [lessT, lessM, lessB, AV.less]
    · have he : i = xs.length := by (have : ¬ i < xs.length := by simpa using hb); omega
      subst he
      repeat (first | refine z14 ?_ | refine z9 ?_ | refine z7 ?_ | (refine z5 fun K hK => ?_; simp (maxSteps := 4000000) only [go_sem]; refine hK _ ?_; clear hK K) | refine z13 ?_ | refine z15 ?_ | refine z10 ?_ | refine z8 ?_ | refine z6 rfl ?_ | refine z12 ?_ | refine z3 ?_ | refine z16 ?_ | refine z11 ?_ | refine z4 ?_)
      simp (maxSteps := 4000000) only [go_sem, hq0, List.drop_length, idxFrom]
theorem zf129 (xs : List (List Diners)) (g : Nat) (caps : List DV) (q : (List Diners) → Bool) (hq : ∀ s ∈ xs, Fn Tryz.prog g (.sl (dinRows s) :: caps) (.bool (q s))) (hl : xs.length < 2 ^ 62) : Fn Tryz.prog 129 [.sl (dayRows xs), .fn g caps] (.bool (xs.any q)) := by
  refine z21 9 Tryz.call129 Tryz.func129 rfl (by decide) fun J => ?_
  simp (maxSteps := 4000000) only [go_sem, St.start, Tryz.ntmps129, Tryz.results129]
  repeat (first | refine z14 ?_ | refine z9 ?_ | refine z7 ?_ | (refine z5 fun K hK => ?_; simp (maxSteps := 4000000) only [go_sem]; (repeat (first | (refine ⟨_, .lent (hf := zf163 xs g caps q hq hl) (hd := rfl) (hr := rfl), ?_⟩; simp (maxSteps := 4000000) only [go_sem]) | (refine ⟨_, .given (hf := zf163 xs g caps q hq hl) (hd := rfl) (ha := rfl), ?_⟩; simp (maxSteps := 4000000) only [go_sem]))); refine hK _ ?_; clear hK K) | refine z13 ?_ | refine z15 ?_ | refine z10 ?_ | refine z8 ?_ | refine z6 rfl ?_ | refine z12 ?_ | refine z3 ?_ | refine z16 ?_ | refine z11 ?_ | refine z4 ?_)
  simp (maxSteps := 4000000) only [go_sem, z34]
theorem zf130 (s : (List Diners)) (g : Nat) (caps : List DV) (b : Bool) (hq : Fn Tryz.prog g (.sl (dinRows s) :: caps) (.bool b)) : Fn Tryz.prog 130 [.sl (dinRows s), .ptr [.fn g caps] 0] (.bool (!b)) := by
  refine z21 8 Tryz.call130 Tryz.func130 rfl (by decide) fun J => ?_
  simp (maxSteps := 4000000) only [go_sem, St.start, Tryz.ntmps130, Tryz.results130]
  repeat (first | refine z14 ?_ | refine z9 ?_ | refine z7 ?_ | (refine z5 fun K hK => ?_; simp (maxSteps := 4000000) only [go_sem]; refine hK _ ?_; clear hK K) | refine z13 ?_ | refine z15 ?_ | refine z10 ?_ | refine z8 ?_ | refine z6 rfl ?_ | refine z12 ?_ | refine z3 ?_ | refine z16 ?_ | refine z11 ?_ | refine z4 ?_)
  refine z5 fun K hK => ?_
  simp (maxSteps := 4000000) only [go_sem]
  refine ⟨_, .lent (hf := hq) (hd := z28 _ _ _ _ rfl) (hr := rfl), ?_⟩
  simp (maxSteps := 4000000) only [go_sem]
  refine hK _ ?_
  clear hK K
  repeat (first | refine z14 ?_ | refine z9 ?_ | refine z7 ?_ | (refine z5 fun K hK => ?_; simp (maxSteps := 4000000) only [go_sem]; refine hK _ ?_; clear hK K) | refine z13 ?_ | refine z15 ?_ | refine z10 ?_ | refine z8 ?_ | refine z6 rfl ?_ | refine z12 ?_ | refine z3 ?_ | refine z16 ?_ | refine z11 ?_ | refine z4 ?_)
  simp (maxSteps := 4000000) only [go_sem]
theorem zf95 (xs : List (List Diners)) (g : Nat) (caps : List DV) (q : (List Diners) → Bool) (hq : ∀ s ∈ xs, Fn Tryz.prog g (.sl (dinRows s) :: caps) (.bool (q s))) (hl : xs.length < 2 ^ 62) : Fn Tryz.prog 95 [.sl (dayRows xs), .fn g caps] (.bool (xs.all q)) := by
  have h := zf129 xs 130 [.ptr [.fn g caps] 0] (fun s => !q s) (fun s hs => zf130 s g caps (q s) (hq s hs)) hl
  refine z21 9 Tryz.call95 Tryz.func95 rfl (by decide) fun J => ?_
  simp (maxSteps := 4000000) only [go_sem, St.start, Tryz.ntmps95, Tryz.results95]
  repeat (first | refine z14 ?_ | refine z9 ?_ | refine z7 ?_ | (refine z5 fun K hK => ?_; simp (maxSteps := 4000000) only [go_sem]; (repeat (first | (refine ⟨_, .lent (hf := h) (hd := rfl) (hr := rfl), ?_⟩; simp (maxSteps := 4000000) only [go_sem]) | (refine ⟨_, .given (hf := h) (hd := rfl) (ha := rfl), ?_⟩; simp (maxSteps := 4000000) only [go_sem]))); refine hK _ ?_; clear hK K) | refine z13 ?_ | refine z15 ?_ | refine z10 ?_ | refine z8 ?_ | refine z6 rfl ?_ | refine z12 ?_ | refine z3 ?_ | refine z16 ?_ | refine z11 ?_ | refine z4 ?_)
  simp (maxSteps := 4000000) only [go_sem, z132]
end Go.Ab
namespace Go.Ab
open Go.RowKit Go.Proofs
set_option maxHeartbeats 8000000
set_option maxRecDepth 20000
attribute [local irreducible] WalkL Walk
def setB (n : Int) : Bool := withinB n 0 255
def batchB (goods : Int) (b : Batch) : Bool := withinB b.good 0 (goods - 1) && (withinB b.amount 0 1000000 && withinB b.last 0 30)
def needB (n : Int) : Bool := withinB n 0 5000
def dishB (goods : Int) (d : Dish) : Bool := ((d.needs.length : Int) == goods) && d.needs.all needB
def groupB (g : Diners) : Bool := setB g.no && (decide (0 ≤ g.count.lo) && (decide (g.count.lo ≤ g.count.hi) && decide (g.count.hi ≤ 100)))
def dayB (l : List Diners) : Bool := decide ((l.length : Int) ≤ 3) && l.all groupB
def badKit (k : Kitchen) : Bool := !withinB (k.allerg.length : Int) 1 6 || (!k.allerg.all setB || (decide ((k.batches.length : Int) > 10) || (!k.batches.all (batchB k.allerg.length) || (!withinB (k.dishes.length : Int) 1 5 || (!k.dishes.all (dishB k.allerg.length) || (!withinB (k.days.length : Int) 1 6 || !k.days.all dayB))))))
def kitE (k : Kitchen) : Int := if badKit k then 70 else 0
theorem zf59 (n lo hi : Int) : Fn Tryz.prog 59 [.i n, .i lo, .i hi] (.bool (withinB n lo hi)) := by
  unfold withinB
  refine z21 15 Tryz.call59 Tryz.func59 rfl (by decide) fun J => ?_
  simp (maxSteps := 4000000) only [go_sem, St.start, Tryz.ntmps59, Tryz.results59]
  cases q : decide (lo ≤ n)
  · repeat (first | refine z14 ?_ | refine z9 ?_ | refine z7 ?_ | (refine z5 fun K hK => ?_; simp (maxSteps := 4000000) only [go_sem, q]; refine hK _ ?_; clear hK K) | refine z13 ?_ | refine z15 ?_ | refine z10 ?_ | refine z8 ?_ | refine z6 rfl ?_ | refine z12 ?_ | refine z3 ?_ | refine z16 ?_ | refine z11 ?_ | refine z4 ?_)
    simp (maxSteps := 4000000) only [go_sem, Bool.false_and]
  · repeat (first | refine z14 ?_ | refine z9 ?_ | refine z7 ?_ | (refine z5 fun K hK => ?_; simp (maxSteps := 4000000) only [go_sem, q]; refine hK _ ?_; clear hK K) | refine z13 ?_ | refine z15 ?_ | refine z10 ?_ | refine z8 ?_ | refine z6 rfl ?_ | refine z12 ?_ | refine z3 ?_ | refine z16 ?_ | refine z11 ?_ | refine z4 ?_)
    simp (maxSteps := 4000000) only [go_sem, Bool.true_and]
theorem zf90 (n : Int) : Fn Tryz.prog 90 [.i n] (.bool (setB n)) := by
  have h := zf59 n 0 255
  refine z21 5 Tryz.call90 Tryz.func90 rfl (by decide) fun J => ?_
  simp (maxSteps := 4000000) only [go_sem, St.start, Tryz.ntmps90, Tryz.results90]
  repeat (first | refine z14 ?_ | refine z9 ?_ | refine z7 ?_ | (refine z5 fun K hK => ?_; simp (maxSteps := 4000000) only [go_sem]; (repeat (first | (refine ⟨_, .lent (hf := h) (hd := rfl) (hr := rfl), ?_⟩; simp (maxSteps := 4000000) only [go_sem]) | (refine ⟨_, .given (hf := h) (hd := rfl) (ha := rfl), ?_⟩; simp (maxSteps := 4000000) only [go_sem]))); refine hK _ ?_; clear hK K) | refine z13 ?_ | refine z15 ?_ | refine z10 ?_ | refine z8 ?_ | refine z6 rfl ?_ | refine z12 ?_ | refine z3 ?_ | refine z16 ?_ | refine z11 ?_ | refine z4 ?_)
  simp (maxSteps := 4000000) only [go_sem, setB]
theorem zf86 (n : Int) : Fn Tryz.prog 86 [.i n] (.bool (needB n)) := by
  have h := zf59 n 0 5000
  refine z21 5 Tryz.call86 Tryz.func86 rfl (by decide) fun J => ?_
  simp (maxSteps := 4000000) only [go_sem, St.start, Tryz.ntmps86, Tryz.results86]
  repeat (first | refine z14 ?_ | refine z9 ?_ | refine z7 ?_ | (refine z5 fun K hK => ?_; simp (maxSteps := 4000000) only [go_sem]; (repeat (first | (refine ⟨_, .lent (hf := h) (hd := rfl) (hr := rfl), ?_⟩; simp (maxSteps := 4000000) only [go_sem]) | (refine ⟨_, .given (hf := h) (hd := rfl) (ha := rfl), ?_⟩; simp (maxSteps := 4000000) only [go_sem]))); refine hK _ ?_; clear hK K) | refine z13 ?_ | refine z15 ?_ | refine z10 ?_ | refine z8 ?_ | refine z6 rfl ?_ | refine z12 ?_ | refine z3 ?_ | refine z16 ?_ | refine z11 ?_ | refine z4 ?_)
  simp (maxSteps := 4000000) only [go_sem, needB]
theorem zf85 (goods : Int) (b : Batch) (hg : 0 ≤ goods ∧ goods < 2 ^ 30) : Fn Tryz.prog 85 [.agg b.row, .ptr [.i goods] 0] (.bool (batchB goods b)) := by
  have h1 := zf59 b.good 0 (goods - 1)
  have h2 := zf59 b.amount 0 1000000
  have h3 := zf59 b.last 0 30
  have w : IntKind.i64.wrap (goods - 1) = goods - 1 := z23 (by omega)
  unfold batchB
  obtain ⟨b1, e1⟩ : ∃ x, x = withinB b.good 0 (goods - 1) := ⟨_, rfl⟩
  obtain ⟨b2, e2⟩ : ∃ x, x = withinB b.amount 0 1000000 := ⟨_, rfl⟩
  obtain ⟨b3, e3⟩ : ∃ x, x = withinB b.last 0 30 := ⟨_, rfl⟩
  rw [← e1] at h1 ⊢
  rw [← e2] at h2 ⊢
  rw [← e3] at h3 ⊢
  refine z21 19 Tryz.call85 Tryz.func85 rfl (by decide) fun J => ?_
  simp (maxSteps := 4000000) only [go_sem, St.start, Tryz.ntmps85, Tryz.results85, Batch.row]
  cases b1 <;> cases b2
  all_goals
    repeat (first | refine z14 ?_ | refine z9 ?_ | refine z7 ?_ | (refine z5 fun K hK => ?_; simp (maxSteps := 4000000) only [go_sem, w]; (repeat (first | (refine ⟨_, .lent (hf := h1) (hd := rfl) (hr := rfl), ?_⟩; simp (maxSteps := 4000000) only [go_sem, w]) | (refine ⟨_, .lent (hf := h2) (hd := rfl) (hr := rfl), ?_⟩; simp (maxSteps := 4000000) only [go_sem, w]) | (refine ⟨_, .lent (hf := h3) (hd := rfl) (hr := rfl), ?_⟩; simp (maxSteps := 4000000) only [go_sem, w]) | (refine ⟨_, .given (hf := h1) (hd := rfl) (ha := rfl), ?_⟩; simp (maxSteps := 4000000) only [go_sem, w]) | (refine ⟨_, .given (hf := h2) (hd := rfl) (ha := rfl), ?_⟩; simp (maxSteps := 4000000) only [go_sem, w]) | (refine ⟨_, .given (hf := h3) (hd := rfl) (ha := rfl), ?_⟩; simp (maxSteps := 4000000) only [go_sem, w]))); refine hK _ ?_; clear hK K) | refine z13 ?_ | refine z15 ?_ | refine z10 ?_ | refine z8 ?_ | refine z6 rfl ?_ | refine z12 ?_ | refine z3 ?_ | refine z16 ?_ | refine z11 ?_ | refine z4 ?_)
    simp (maxSteps := 4000000) only [go_sem, Bool.false_and, Bool.true_and]
theorem zf87 (goods : Int) (d : Dish) (hd : d.needs.length < 2 ^ 30) : Fn Tryz.prog 87 [.agg d.row, .ptr [.i goods] 0, .ptr [.fn 86 []] 0] (.bool (dishB goods d)) := by
  have h := zf88 d.needs 86 [] needB (fun n _ => zf86 n) (by omega)
  unfold dishB
  obtain ⟨b1, e1⟩ : ∃ x, ((d.needs.length : Int) == goods) = x := ⟨_, rfl⟩
  rw [e1]
  refine z21 16 Tryz.call87 Tryz.func87 rfl (by decide) fun J => ?_
  simp (maxSteps := 4000000) only [go_sem, St.start, Tryz.ntmps87, Tryz.results87, Dish.row]
  cases b1
  all_goals
    repeat (first | refine z14 ?_ | refine z9 ?_ | refine z7 ?_ | (refine z5 fun K hK => ?_; simp (maxSteps := 4000000) only [go_sem, e1]; (repeat (first | (refine ⟨_, .lent (hf := h) (hd := rfl) (hr := rfl), ?_⟩; simp (maxSteps := 4000000) only [go_sem, e1]) | (refine ⟨_, .given (hf := h) (hd := rfl) (ha := rfl), ?_⟩; simp (maxSteps := 4000000) only [go_sem, e1]))); refine hK _ ?_; clear hK K) | refine z13 ?_ | refine z15 ?_ | refine z10 ?_ | refine z8 ?_ | refine z6 rfl ?_ | refine z12 ?_ | refine z3 ?_ | refine z16 ?_ | refine z11 ?_ | refine z4 ?_)
    simp (maxSteps := 4000000) only [go_sem, Bool.false_and, Bool.true_and]
theorem zf89 (g : Diners) : Fn Tryz.prog 89 [.agg g.row] (.bool (groupB g)) := by
  have h := zf90 g.no
  unfold groupB
  obtain ⟨b1, e1⟩ : ∃ x, x = setB g.no := ⟨_, rfl⟩
  obtain ⟨b2, e2⟩ : ∃ x, decide (0 ≤ g.count.lo) = x := ⟨_, rfl⟩
  obtain ⟨b3, e3⟩ : ∃ x, decide (g.count.lo ≤ g.count.hi) = x := ⟨_, rfl⟩
  rw [← e1] at h ⊢
  rw [e2, e3]
  refine z21 27 Tryz.call89 Tryz.func89 rfl (by decide) fun J => ?_
  simp (maxSteps := 4000000) only [go_sem, St.start, Tryz.ntmps89, Tryz.results89, Diners.row]
  cases b1 <;> cases b2 <;> cases b3
  all_goals
    repeat (first | refine z14 ?_ | refine z9 ?_ | refine z7 ?_ | (refine z5 fun K hK => ?_; simp (maxSteps := 4000000) only [go_sem, e2, e3]; (repeat (first | (refine ⟨_, .lent (hf := h) (hd := rfl) (hr := rfl), ?_⟩; simp (maxSteps := 4000000) only [go_sem, e2, e3]) | (refine ⟨_, .given (hf := h) (hd := rfl) (ha := rfl), ?_⟩; simp (maxSteps := 4000000) only [go_sem, e2, e3]))); refine hK _ ?_; clear hK K) | refine z13 ?_ | refine z15 ?_ | refine z10 ?_ | refine z8 ?_ | refine z6 rfl ?_ | refine z12 ?_ | refine z3 ?_ | refine z16 ?_ | refine z11 ?_ | refine z4 ?_)
    simp (maxSteps := 4000000) only [go_sem, Bool.false_and, Bool.true_and]
theorem zf91 (l : List Diners) (hl : l.length < 2 ^ 30) : Fn Tryz.prog 91 [.sl (dinRows l), .ptr [.fn 89 []] 0] (.bool (dayB l)) := by
  have h := zf92 l 89 [] groupB (fun g _ => zf89 g) (by omega)
  unfold dayB
  obtain ⟨b1, e1⟩ : ∃ x, decide ((l.length : Int) ≤ 3) = x := ⟨_, rfl⟩
  rw [e1]
  refine z21 12 Tryz.call91 Tryz.func91 rfl (by decide) fun J => ?_
  simp (maxSteps := 4000000) only [go_sem, St.start, Tryz.ntmps91, Tryz.results91]
  cases b1
  all_goals
    repeat (first | refine z14 ?_ | refine z9 ?_ | refine z7 ?_ | (refine z5 fun K hK => ?_; simp (maxSteps := 4000000) only [go_sem, e1]; (repeat (first | (refine ⟨_, .lent (hf := h) (hd := rfl) (hr := rfl), ?_⟩; simp (maxSteps := 4000000) only [go_sem, e1]) | (refine ⟨_, .given (hf := h) (hd := rfl) (ha := rfl), ?_⟩; simp (maxSteps := 4000000) only [go_sem, e1]))); refine hK _ ?_; clear hK K) | refine z13 ?_ | refine z15 ?_ | refine z10 ?_ | refine z8 ?_ | refine z6 rfl ?_ | refine z12 ?_ | refine z3 ?_ | refine z16 ?_ | refine z11 ?_ | refine z4 ?_)
    simp (maxSteps := 4000000) only [go_sem, Bool.false_and, Bool.true_and]
theorem zf61 (k : Kitchen) (hs : KitSmall k) : Fn Tryz.prog 61 [.agg k.cells] (.i (kitE k)) := by
  have a1 := hs.allerg
  have h1 := zf59 (k.allerg.length : Int) 1 6
  have h2 := zf88 k.allerg 90 [] setB (fun n _ => zf90 n) (by omega)
  have h4 := zf93 k.batches 85 [.ptr [.i (k.allerg.length : Int)] 0] (batchB k.allerg.length) (fun b _ => zf85 _ b (by omega)) (by have := hs.batches; omega)
  have h5 := zf59 (k.dishes.length : Int) 1 5
  have h6 := zf94 k.dishes 87 [.ptr [.i (k.allerg.length : Int)] 0, .ptr [.fn 86 []] 0] (dishB k.allerg.length) (fun d hd => zf87 _ d (hs.needs d hd)) (by have := hs.dishes; omega)
  have h7 := zf59 (k.days.length : Int) 1 6
  have h8 := zf95 k.days 91 [.ptr [.fn 89 []] 0] dayB (fun d hd => zf91 d (hs.groups d hd)) (by have := hs.days; omega)
  unfold kitE
  refine z21 65 Tryz.call61 Tryz.func61 rfl (by decide) fun J => ?_
  simp (maxSteps := 4000000) only [go_sem, St.start, Tryz.ntmps61, Tryz.results61, Kitchen.cells]
  repeat (first | refine z14 ?_ | refine z9 ?_ | refine z7 ?_ | (refine z5 fun K hK => ?_; simp (maxSteps := 4000000) only [go_sem]; refine hK _ ?_; clear hK K) | refine z13 ?_ | refine z15 ?_ | refine z10 ?_ | refine z8 ?_ | refine z6 rfl ?_ | refine z12 ?_ | refine z3 ?_ | refine z16 ?_ | refine z11 ?_ | refine z4 ?_)
  refine z40 [(64, .d (.bool (badKit k)))] [] ?_ ?_
  · refine z5 fun K hK => ?_
    simp (maxSteps := 4000000) only [go_sem]
    refine ⟨_, .lent (hf := h1) (hd := rfl) (hr := rfl), ?_⟩
    simp (maxSteps := 4000000) only [go_sem]
    by_cases ho0 : (!withinB (k.allerg.length : Int) 1 6) = true
    · simp (maxSteps := 4000000) only [go_sem, ho0]
      refine hK _ ?_
      clear hK K
      refine z13 ?_
      refine z4 ?_
      refine ⟨rfl, ?_⟩
      rw [show (badKit k) = (true) from by simp [badKit, ho0]]
      simp (maxSteps := 4000000) only [go_sem]
      refine z19 [] ?_ ?_ rfl rfl <;> simp [lessT, lessM, lessB, AV.less]
    · simp (maxSteps := 4000000) only [go_sem, ho0]
      refine ⟨_, .lent (hf := h2) (hd := rfl) (hr := rfl), ?_⟩
      simp (maxSteps := 4000000) only [go_sem, ho0]
      by_cases ho1 : (!k.allerg.all setB) = true
      · simp (maxSteps := 4000000) only [go_sem, ho0, ho1]
        refine hK _ ?_
        clear hK K
        refine z13 ?_
        refine z4 ?_
        refine ⟨rfl, ?_⟩
        rw [show (badKit k) = (true) from by simp [badKit, ho0, ho1]]
        simp (maxSteps := 4000000) only [go_sem]
        refine z19 [] ?_ ?_ rfl rfl <;> simp [lessT, lessM, lessB, AV.less]
      · simp (maxSteps := 4000000) only [go_sem, ho0, ho1]
        by_cases ho2 : (decide ((k.batches.length : Int) > 10)) = true
        · simp (maxSteps := 4000000) only [go_sem, ho0, ho1, ho2]
          refine hK _ ?_
          clear hK K
          refine z13 ?_
          refine z4 ?_
          refine ⟨rfl, ?_⟩
          rw [show (badKit k) = (true) from by simp [badKit, ho0, ho1, ho2]]
          simp (maxSteps := 4000000) only [go_sem]
          refine z19 [] ?_ ?_ rfl rfl <;> simp [lessT, lessM, lessB, AV.less]
        · simp (maxSteps := 4000000) only [go_sem, ho0, ho1, ho2]
          refine ⟨_, .lent (hf := h4) (hd := rfl) (hr := rfl), ?_⟩
          simp (maxSteps := 4000000) only [go_sem, ho0, ho1, ho2]
          by_cases ho3 : (!k.batches.all (batchB k.allerg.length)) = true
          · simp (maxSteps := 4000000) only [go_sem, ho0, ho1, ho2, ho3]
            refine hK _ ?_
            clear hK K
            refine z13 ?_
            refine z4 ?_
            refine ⟨rfl, ?_⟩
            rw [show (badKit k) = (true) from by simp [badKit, ho0, ho1, ho2, ho3]]
            simp (maxSteps := 4000000) only [go_sem]
            refine z19 [] ?_ ?_ rfl rfl <;> simp [lessT, lessM, lessB, AV.less]
          · simp (maxSteps := 4000000) only [go_sem, ho0, ho1, ho2, ho3]
            refine ⟨_, .lent (hf := h5) (hd := rfl) (hr := rfl), ?_⟩
            simp (maxSteps := 4000000) only [go_sem, ho0, ho1, ho2, ho3]
            by_cases ho4 : (!withinB (k.dishes.length : Int) 1 5) = true
            · simp (maxSteps := 4000000) only [go_sem, ho0, ho1, ho2, ho3, ho4]
              refine hK _ ?_
              clear hK K
              refine z13 ?_
              refine z4 ?_
              refine ⟨rfl, ?_⟩
              rw [show (badKit k) = (true) from by simp [badKit, ho0, ho1, ho2, ho3, ho4]]
              simp (maxSteps := 4000000) only [go_sem]
              refine z19 [] ?_ ?_ rfl rfl <;> simp [lessT, lessM, lessB, AV.less]
            · simp (maxSteps := 4000000) only [go_sem, ho0, ho1, ho2, ho3, ho4]
              refine ⟨_, .lent (hf := h6) (hd := rfl) (hr := rfl), ?_⟩
              simp (maxSteps := 4000000) only [go_sem, ho0, ho1, ho2, ho3, ho4]
              by_cases ho5 : (!k.dishes.all (dishB k.allerg.length)) = true
              · simp (maxSteps := 4000000) only [go_sem, ho0, ho1, ho2, ho3, ho4, ho5]
                refine hK _ ?_
                clear hK K
                refine z13 ?_
                refine z4 ?_
                refine ⟨rfl, ?_⟩
                rw [show (badKit k) = (true) from by simp [badKit, ho0, ho1, ho2, ho3, ho4, ho5]]
                simp (maxSteps := 4000000) only [go_sem]
                refine z19 [] ?_ ?_ rfl rfl <;> simp [lessT, lessM, lessB, AV.less]
              · simp (maxSteps := 4000000) only [go_sem, ho0, ho1, ho2, ho3, ho4, ho5]
                refine ⟨_, .lent (hf := h7) (hd := rfl) (hr := rfl), ?_⟩
                simp (maxSteps := 4000000) only [go_sem, ho0, ho1, ho2, ho3, ho4, ho5]
                by_cases ho6 : (!withinB (k.days.length : Int) 1 6) = true
                · simp (maxSteps := 4000000) only [go_sem, ho0, ho1, ho2, ho3, ho4, ho5, ho6]
                  refine hK _ ?_
                  clear hK K
                  refine z13 ?_
                  refine z4 ?_
                  refine ⟨rfl, ?_⟩
                  rw [show (badKit k) = (true) from by simp [badKit, ho0, ho1, ho2, ho3, ho4, ho5, ho6]]
                  simp (maxSteps := 4000000) only [go_sem]
                  refine z19 [] ?_ ?_ rfl rfl <;> simp [lessT, lessM, lessB, AV.less]
                · simp (maxSteps := 4000000) only [go_sem, ho0, ho1, ho2, ho3, ho4, ho5, ho6]
                  refine ⟨_, .lent (hf := h8) (hd := rfl) (hr := rfl), ?_⟩
                  simp (maxSteps := 4000000) only [go_sem, ho0, ho1, ho2, ho3, ho4, ho5, ho6]
                  refine hK _ ?_
                  clear hK K
                  refine z13 ?_
                  refine z4 ?_
                  refine ⟨rfl, ?_⟩
                  rw [show (badKit k) = (!k.days.all dayB) from by simp [badKit, ho0, ho1, ho2, ho3, ho4, ho5, ho6]]
                  simp (maxSteps := 4000000) only [go_sem]
                  refine z19 [] ?_ ?_ rfl rfl <;> simp [lessT, lessM, lessB, AV.less]
  simp (maxSteps := 4000000) only [go_sem]
  repeat (first | refine z14 ?_ | refine z9 ?_ | refine z7 ?_ | (refine z5 fun K hK => ?_; simp (maxSteps := 4000000) only [go_sem]; refine hK _ ?_; clear hK K) | refine z13 ?_ | refine z15 ?_ | refine z10 ?_ | refine z8 ?_ | refine z6 rfl ?_ | refine z12 ?_ | refine z3 ?_ | refine z16 ?_ | refine z11 ?_ | refine z4 ?_)
  refine z20 rfl (fun hc => ?_) (fun hc => ?_)
  · rw [hc]
    repeat (first | refine z14 ?_ | refine z9 ?_ | refine z7 ?_ | (refine z5 fun K hK => ?_; simp (maxSteps := 4000000) only [go_sem]; refine hK _ ?_; clear hK K) | refine z13 ?_ | refine z15 ?_ | refine z10 ?_ | refine z8 ?_ | refine z6 rfl ?_ | refine z12 ?_ | refine z3 ?_ | refine z16 ?_ | refine z11 ?_ | refine z4 ?_)
    simp (maxSteps := 4000000) only [go_sem, if_true]
  · rw [hc]
    repeat (first | refine z14 ?_ | refine z9 ?_ | refine z7 ?_ | (refine z5 fun K hK => ?_; simp (maxSteps := 4000000) only [go_sem]; refine hK _ ?_; clear hK K) | refine z13 ?_ | refine z15 ?_ | refine z10 ?_ | refine z8 ?_ | refine z6 rfl ?_ | refine z12 ?_ | refine z3 ?_ | refine z16 ?_ | refine z11 ?_ | refine z4 ?_)
    simp (maxSteps := 4000000) only [go_sem, Bool.false_eq_true, if_false]
end Go.Ab
namespace Go.Ab
open Go.RowKit Go.Proofs
set_option maxHeartbeats 8000000
set_option maxRecDepth 20000
attribute [local irreducible] WalkL Walk
def badGood (a : List Int) (needs : List Int) (no : Int) (i : Nat) : Bool := decide (getI needs (i : Int) > 0) && (bAnd .i64 (getI a (i : Int)) no != 0)
def suitTo (a : List Int) (needs : List Int) (no : Int) : Nat → Bool
  | 0 => true
  | i + 1 => suitTo a needs no i && !badGood a needs no i
def noDish : Dish := ⟨[]⟩
def dishAt (k : Kitchen) (n : Int) : Dish := k.dishes.getD n.toNat noDish
def suitsB (k : Kitchen) (n : Int) (no : Int) : Bool := suitTo k.allerg (dishAt k n).needs no (dishAt k n).needs.length
theorem z248 {a needs : List Int} {no : Int} {i : Nat} (h : badGood a needs no i = true) : ∀ {m : Nat}, i < m → suitTo a needs no m = false := by
  intro m hm
  induction hm with
  | refl => rw [suitTo, h]; simp
  | step _ ih => rw [suitTo, ih]; rfl
theorem z33 {l : List Int} {i : Nat} (h : i < l.length) : (intRows l)[i]? = some [.i (getI l (i : Int))] := by
  obtain ⟨x, hx⟩ : ∃ x, l[i]? = some x := ⟨_, List.getElem?_eq_getElem h⟩
  rw [z48 hx, getI, Int.toNat_natCast, List.getD, hx]
  rfl
theorem dish_at {k : Kitchen} {n : Nat} (h : n < k.dishes.length) : (dishRows k.dishes)[n]? = some [.sl (intRows (dishAt k (n : Int)).needs)] := by
  obtain ⟨x, hx⟩ : ∃ x, k.dishes[n]? = some x := ⟨_, List.getElem?_eq_getElem h⟩
  rw [z102 hx, dishAt, Int.toNat_natCast, List.getD, hx]
  rfl
structure KitGood (k : Kitchen) : Prop where
  goods : 1 ≤ k.allerg.length ∧ k.allerg.length ≤ 6
  allerg : ∀ n ∈ k.allerg, 0 ≤ n ∧ n ≤ 255
  batches : k.batches.length ≤ 10
  batch : ∀ b ∈ k.batches, (0 ≤ b.good ∧ b.good < k.allerg.length) ∧ (0 ≤ b.amount ∧ b.amount ≤ 1000000) ∧ (0 ≤ b.last ∧ b.last ≤ 30)
  dishes : 1 ≤ k.dishes.length ∧ k.dishes.length ≤ 5
  needs : ∀ d ∈ k.dishes, d.needs.length = k.allerg.length ∧ ∀ n ∈ d.needs, 0 ≤ n ∧ n ≤ 5000
  days : 1 ≤ k.days.length ∧ k.days.length ≤ 6
  groups : ∀ d ∈ k.days, d.length ≤ 3 ∧ ∀ g ∈ d, (0 ≤ g.no ∧ g.no ≤ 255) ∧ (0 ≤ g.count.lo ∧ g.count.lo ≤ g.count.hi ∧ g.count.hi ≤ 100)
theorem z179 {k : Kitchen} (h : badKit k = false) : KitGood k := by
  simp only [badKit, Bool.or_eq_false_iff, Bool.not_eq_false', decide_eq_false_iff_not, List.all_eq_true] at h
  obtain ⟨h1, h2, h3, h4, h5, h6, h7, h8⟩ := h
  have h1 := z27.1 h1
  have h5 := z27.1 h5
  have h7 := z27.1 h7
  refine ⟨by omega, fun n hn => z27.1 (h2 n hn), by omega, fun b hb => ?_, by omega, fun d hd => ?_, by omega, fun d hd => ?_⟩
  · have := h4 b hb
    simp only [batchB, Bool.and_eq_true] at this
    have q1 := z27.1 this.1
    exact ⟨by omega, z27.1 this.2.1, z27.1 this.2.2⟩
  · have := h6 d hd
    simp only [dishB, Bool.and_eq_true, beq_iff_eq, List.all_eq_true] at this
    exact ⟨by omega, fun n hn => z27.1 (this.2 n hn)⟩
  · have := h8 d hd
    simp only [dayB, Bool.and_eq_true, decide_eq_true_eq, List.all_eq_true] at this
    refine ⟨by omega, fun g hg => ?_⟩
    have := this.2 g hg
    simp only [groupB, Bool.and_eq_true, decide_eq_true_eq] at this
    exact ⟨z27.1 this.1, this.2⟩
theorem z144 {k : Kitchen} : kitE k = 0 ↔ badKit k = false := by
  unfold kitE
  cases badKit k <;> simp
theorem dish_len {k : Kitchen} (hg : KitGood k) {n : Nat} (h : n < k.dishes.length) : (dishAt k (n : Int)).needs.length = k.allerg.length := by
  obtain ⟨x, hx⟩ : ∃ x, k.dishes[n]? = some x := ⟨_, List.getElem?_eq_getElem h⟩
  have : dishAt k (n : Int) = x := by rw [dishAt, Int.toNat_natCast, List.getD, hx]; rfl
  rw [this]
  exact (hg.needs x (List.mem_of_getElem? hx)).1
theorem zf117 (k : Kitchen) (hg : KitGood k) (n : Nat) (no : Int) (hn : n < k.dishes.length) : Fn Tryz.prog 117 [.agg k.cells, .i (n : Int), .i no] (.bool (suitsB k (n : Int) no)) := by
  have gd := dish_at hn
  have hl := dish_len hg hn
  have hgo := hg.goods
  have hnn : ¬ ((n : Int) < 0) := by omega
  unfold suitsB
  obtain ⟨N, hN⟩ : ∃ N, N = (dishAt k (n : Int)).needs := ⟨_, rfl⟩
  rw [← hN] at gd hl ⊢
  refine z21 36 Tryz.call117 Tryz.func117 rfl (by decide) fun J => ?_
  simp (maxSteps := 4000000) only [go_sem, St.start, Tryz.ntmps117, Tryz.results117, Kitchen.cells]
  repeat (first | refine z14 ?_ | refine z9 ?_ | refine z7 ?_ | (refine z5 fun K hK => ?_; simp (maxSteps := 4000000) only [go_sem, gd, hnn]; refine hK _ ?_; clear hK K) | refine z13 ?_ | refine z15 ?_ | refine z10 ?_ | refine z8 ?_ | refine z6 rfl ?_ | refine z12 ?_ | refine z3 ?_ | refine z16 ?_ | refine z11 ?_ | refine z4 ?_)
  refine z22 (fun (i : Nat) => [(17, .d (.i (i : Int)))]) (fun _ => []) (fun i => i ≤ N.length ∧ suitTo k.allerg N no i = true) (fun i => N.length - i) 0 ?_ ⟨Nat.zero_le _, rfl⟩ ?_
  · simp (maxSteps := 4000000) only [go_sem]
    refine z19 [] ?_ ?_ rfl rfl <;> simp [lessT, lessM, lessB, AV.less]
  · rintro i ⟨hi, hs⟩
    simp (maxSteps := 4000000) only [go_sem]
    repeat (first | refine z14 ?_ | refine z9 ?_ | refine z7 ?_ | (refine z5 fun K hK => ?_; simp (maxSteps := 4000000) only [go_sem]; refine hK _ ?_; clear hK K) | refine z13 ?_ | refine z15 ?_ | refine z10 ?_ | refine z8 ?_ | refine z6 rfl ?_ | refine z12 ?_ | refine z3 ?_ | refine z16 ?_ | refine z11 ?_ | refine z4 ?_)
    refine z20 rfl (fun hb => ?_) (fun hb => ?_)
    · have hlt : i < N.length := by simpa using hb
      have hw : IntKind.i64.wrap ((i : Int) + 1) = ((i + 1 : Nat) : Int) := by rw [z23 (by omega)]; simp
      have g1 := z33 hlt
      have g2 := z33 (l := k.allerg) (i := i) (by omega)
      have hni : ¬ ((i : Int) < 0) := by omega
      cases q1 : decide (getI N (i : Int) > 0)
      · have hbg : badGood k.allerg N no i = false := by rw [badGood, q1]; rfl
        repeat (first | refine z18 rfl ?_ | refine z17 rfl ?_ | refine z14 ?_ | refine z9 ?_ | refine z7 ?_ | (refine z5 fun K hK => ?_; simp (maxSteps := 4000000) only [go_sem, g1, q1, hw]; refine hK _ ?_; clear hK K) | refine z13 ?_ | refine z15 ?_ | refine z10 ?_ | refine z8 ?_ | refine z6 rfl ?_ | refine z12 ?_ | refine z3 ?_ | refine z16 ?_ | refine z11 ?_ | refine z4 ?_)
        refine ⟨rfl, i + 1, ?_, ⟨hlt, by rw [suitTo, hs, hbg]; rfl⟩, by omega⟩
        refine z19 [] ?_ ?_ rfl rfl <;> simp [lessT, lessM, lessB, AV.less]
      · cases q2 : (bAnd .i64 (getI k.allerg (i : Int)) no != 0)
        · have hbg : badGood k.allerg N no i = false := by rw [badGood, q2, Bool.and_false]
          repeat (first | refine z18 rfl ?_ | refine z17 rfl ?_ | refine z14 ?_ | refine z9 ?_ | refine z7 ?_ | (refine z5 fun K hK => ?_; simp (maxSteps := 4000000) only [go_sem, g1, g2, q1, q2, hni, hw]; refine hK _ ?_; clear hK K) | refine z13 ?_ | refine z15 ?_ | refine z10 ?_ | refine z8 ?_ | refine z6 rfl ?_ | refine z12 ?_ | refine z3 ?_ | refine z16 ?_ | refine z11 ?_ | refine z4 ?_)
          refine ⟨rfl, i + 1, ?_, ⟨hlt, by rw [suitTo, hs, hbg]; rfl⟩, by omega⟩
          refine z19 [] ?_ ?_ rfl rfl <;> simp [lessT, lessM, lessB, AV.less]
        · have hbg : badGood k.allerg N no i = true := by rw [badGood, q1, q2]; rfl
          rw [z248 hbg hlt]
          repeat (first | refine z18 rfl ?_ | refine z17 rfl ?_ | refine z14 ?_ | refine z9 ?_ | refine z7 ?_ | (refine z5 fun K hK => ?_; simp (maxSteps := 4000000) only [go_sem, g1, g2, q1, q2, hni]; refine hK _ ?_; clear hK K) | refine z13 ?_ | refine z15 ?_ | refine z10 ?_ | refine z8 ?_ | refine z6 rfl ?_ | refine z12 ?_ | refine z3 ?_ | refine z16 ?_ | refine z11 ?_ | refine z4 ?_)
          simp (maxSteps := 4000000) only [go_sem]
    · have he : i = N.length := by (have : ¬ i < N.length := by simpa using hb); omega
      subst he
      rw [hs]
      repeat (first | refine z14 ?_ | refine z9 ?_ | refine z7 ?_ | (refine z5 fun K hK => ?_; simp (maxSteps := 4000000) only [go_sem]; refine hK _ ?_; clear hK K) | refine z13 ?_ | refine z15 ?_ | refine z10 ?_ | refine z8 ?_ | refine z6 rfl ?_ | refine z12 ?_ | refine z3 ?_ | refine z16 ?_ | refine z11 ?_ | refine z4 ?_)
      simp (maxSteps := 4000000) only [go_sem]
def menuB (k : Kitchen) (n : Int) (g : Diners) : Bool := withinB n 0 ((k.dishes.length : Int) - 1) && suitsB k n g.no
theorem zf78 (k : Kitchen) (hg : KitGood k) (n : Int) (g : Diners) : Fn Tryz.prog 78 [.agg k.cells, .i n, .agg g.row] (.bool (menuB k n g)) := by
  have hd := hg.dishes
  have h1 := zf59 n 0 ((k.dishes.length : Int) - 1)
  have w : IntKind.i64.wrap ((k.dishes.length : Int) - 1) = (k.dishes.length : Int) - 1 := z23 (by omega)
  unfold menuB
  cases q : withinB n 0 ((k.dishes.length : Int) - 1)
  · rw [q] at h1
    refine z21 21 Tryz.call78 Tryz.func78 rfl (by decide) fun J => ?_
    simp (maxSteps := 4000000) only [go_sem, St.start, Tryz.ntmps78, Tryz.results78, Kitchen.cells, Diners.row]
    repeat (first | refine z14 ?_ | refine z9 ?_ | refine z7 ?_ | (refine z5 fun K hK => ?_; simp (maxSteps := 4000000) only [go_sem, w]; (repeat (first | (refine ⟨_, .lent (hf := h1) (hd := rfl) (hr := rfl), ?_⟩; simp (maxSteps := 4000000) only [go_sem, w]) | (refine ⟨_, .given (hf := h1) (hd := rfl) (ha := rfl), ?_⟩; simp (maxSteps := 4000000) only [go_sem, w]))); refine hK _ ?_; clear hK K) | refine z13 ?_ | refine z15 ?_ | refine z10 ?_ | refine z8 ?_ | refine z6 rfl ?_ | refine z12 ?_ | refine z3 ?_ | refine z16 ?_ | refine z11 ?_ | refine z4 ?_)
    simp (maxSteps := 4000000) only [go_sem, Bool.false_and]
  · rw [q] at h1
    have r := z27.1 q
    obtain ⟨m, rfl⟩ : ∃ m : Nat, n = m := ⟨n.toNat, by omega⟩
    have h2 := zf117 k hg m g.no (by omega)
    rw [Kitchen.cells] at h2
    refine z21 21 Tryz.call78 Tryz.func78 rfl (by decide) fun J => ?_
    simp (maxSteps := 4000000) only [go_sem, St.start, Tryz.ntmps78, Tryz.results78, Kitchen.cells, Diners.row]
    repeat (first | refine z14 ?_ | refine z9 ?_ | refine z7 ?_ | (refine z5 fun K hK => ?_; simp (maxSteps := 4000000) only [go_sem, w]; (repeat (first | (refine ⟨_, .lent (hf := h1) (hd := rfl) (hr := rfl), ?_⟩; simp (maxSteps := 4000000) only [go_sem, w]) | (refine ⟨_, .lent (hf := h2) (hd := rfl) (hr := rfl), ?_⟩; simp (maxSteps := 4000000) only [go_sem, w]) | (refine ⟨_, .given (hf := h1) (hd := rfl) (ha := rfl), ?_⟩; simp (maxSteps := 4000000) only [go_sem, w]) | (refine ⟨_, .given (hf := h2) (hd := rfl) (ha := rfl), ?_⟩; simp (maxSteps := 4000000) only [go_sem, w]))); refine hK _ ?_; clear hK K) | refine z13 ?_ | refine z15 ?_ | refine z10 ?_ | refine z8 ?_ | refine z6 rfl ?_ | refine z12 ?_ | refine z3 ?_ | refine z16 ?_ | refine z11 ?_ | refine z4 ?_)
    simp (maxSteps := 4000000) only [go_sem, Bool.true_and]
def rowOk (q : Int → Diners → Bool) : List Int → List Diners → Bool
  | [], [] => true
  | n :: l, g :: gs => q n g && rowOk q l gs
  | _, _ => false
def shapedB (q : Int → Diners → Bool) : List (List Int) → List (List Diners) → Bool
  | [], [] => true
  | r :: l, d :: ds => rowOk q r d && shapedB q l ds
  | _, _ => false
theorem z174 {q : Int → Diners → Bool} : ∀ {l : List Int} {d : List Diners}, rowOk q l d = true → l.length = d.length
  | [], [], _ => rfl
  | _ :: l, _ :: d, h => by
    rw [rowOk, Bool.and_eq_true] at h
    simp [z174 h.2]
  | [], _ :: _, h => by cases h
  | _ :: _, [], h => by cases h
theorem z74 {q : Int → Diners → Bool} : ∀ {l : List (List Int)} {d : List (List Diners)}, shapedB q l d = true → l.length = d.length
  | [], [], _ => rfl
  | _ :: l, _ :: d, h => by
    rw [shapedB, Bool.and_eq_true] at h
    simp [z74 h.2]
  | [], _ :: _, h => by cases h
  | _ :: _, [], h => by cases h
theorem zf57m (k : Kitchen) (hg : KitGood k) (M : List (List Int)) (hM : M.length < 2 ^ 30) (hMr : ∀ r ∈ M, r.length < 2 ^ 30) : Fn Tryz.prog 57 [.agg k.cells, .sl (listRows M), .bnd 78 [.agg k.cells]] (.bool (shapedB (menuB k) M k.days)) := by
  have hdd := hg.days
  have hgr := hg.groups
  obtain ⟨q, hq⟩ : ∃ q, q = menuB k := ⟨_, rfl⟩
  have h137 := fun (n : Int) (g : Diners) => zf78 k hg n g
  simp only [← hq] at h137
  rw [← hq]
  rw [Kitchen.cells] at h137
  obtain ⟨R, hR⟩ : ∃ R, R = shapedB q M k.days := ⟨_, rfl⟩
  rw [← hR]
  cases q1 : ((M.length : Int) != (k.days.length : Int))
  · have hl : M.length = k.days.length := by
      simp only [bne_eq_false_iff_eq] at q1
      omega
    refine z21 55 Tryz.call57 Tryz.func57 rfl (by decide) fun J => ?_
    simp (maxSteps := 4000000) only [go_sem, St.start, Tryz.ntmps57, Tryz.results57, Kitchen.cells]
    repeat (first | refine z18 rfl ?_ | refine z17 rfl ?_ | refine z14 ?_ | refine z9 ?_ | refine z7 ?_ | (refine z5 fun K hK => ?_; simp (maxSteps := 4000000) only [go_sem, q1]; refine hK _ ?_; clear hK K) | refine z13 ?_ | refine z15 ?_ | refine z10 ?_ | refine z8 ?_ | refine z6 rfl ?_ | refine z12 ?_ | refine z3 ?_ | refine z16 ?_ | refine z11 ?_ | refine z4 ?_)
    refine z22 (fun (i : Nat) => [(22, .d (.i (i : Int)))]) (fun _ => []) (fun i => i ≤ k.days.length ∧ R = shapedB q (M.drop i) (k.days.drop i)) (fun i => k.days.length - i) 0 ?_ ⟨Nat.zero_le _, hR⟩ ?_
    · simp (maxSteps := 4000000) only [go_sem]
      refine z19 [] ?_ ?_ rfl rfl <;> simp [lessT, lessM, lessB, AV.less]
    · rintro i ⟨hi, hRi⟩
      simp (maxSteps := 4000000) only [go_sem]
      repeat (first | refine z14 ?_ | refine z9 ?_ | refine z7 ?_ | (refine z5 fun K hK => ?_; simp (maxSteps := 4000000) only [go_sem]; refine hK _ ?_; clear hK K) | refine z13 ?_ | refine z15 ?_ | refine z10 ?_ | refine z8 ?_ | refine z6 rfl ?_ | refine z12 ?_ | refine z3 ?_ | refine z16 ?_ | refine z11 ?_ | refine z4 ?_)
      refine z20 rfl (fun hb => ?_) (fun hb => ?_)
      · have hlt : i < k.days.length := by simpa using hb
        have hw : IntKind.i64.wrap ((i : Int) + 1) = ((i + 1 : Nat) : Int) := by rw [z23 (by omega)]; simp
        obtain ⟨d, hd⟩ : ∃ d, k.days[i]? = some d := ⟨_, List.getElem?_eq_getElem hlt⟩
        obtain ⟨r, hr⟩ : ∃ r, M[i]? = some r := ⟨_, List.getElem?_eq_getElem (by omega)⟩
        have g1 := z77 hd
        have g2 := z62 hr
        have hni : ¬ ((i : Int) < 0) := by omega
        have hd3 := (hgr d (List.mem_of_getElem? hd)).1
        rw [z30 hd, z30 hr, shapedB] at hRi
        cases q2 : ((r.length : Int) != (d.length : Int))
        · have hrl : r.length = d.length := by
            simp only [bne_eq_false_iff_eq] at q2
            omega
          repeat (first | refine z18 rfl ?_ | refine z17 rfl ?_ | refine z14 ?_ | refine z9 ?_ | refine z7 ?_ | (refine z5 fun K hK => ?_; simp (maxSteps := 4000000) only [go_sem, g1, g2, hni, q2]; refine hK _ ?_; clear hK K) | refine z13 ?_ | refine z15 ?_ | refine z10 ?_ | refine z8 ?_ | refine z6 rfl ?_ | refine z12 ?_ | refine z3 ?_ | refine z16 ?_ | refine z11 ?_ | refine z4 ?_)
          refine z22 (fun (j : Nat) => [(37, .d (.i (j : Int)))]) (fun _ => []) (fun j => j ≤ d.length ∧ R = (rowOk q (r.drop j) (d.drop j) && shapedB q (M.drop (i + 1)) (k.days.drop (i + 1)))) (fun j => d.length - j) 0 ?_ ⟨Nat.zero_le _, hRi⟩ ?_
          · simp (maxSteps := 4000000) only [go_sem]
            refine z19 [] ?_ ?_ rfl rfl <;> simp [lessT, lessM, lessB, AV.less]
          · rintro j ⟨hj, hRj⟩
            simp (maxSteps := 4000000) only [go_sem]
            repeat (first | refine z14 ?_ | refine z9 ?_ | refine z7 ?_ | (refine z5 fun K hK => ?_; simp (maxSteps := 4000000) only [go_sem]; refine hK _ ?_; clear hK K) | refine z13 ?_ | refine z15 ?_ | refine z10 ?_ | refine z8 ?_ | refine z6 rfl ?_ | refine z12 ?_ | refine z3 ?_ | refine z16 ?_ | refine z11 ?_ | refine z4 ?_)
            refine z20 rfl (fun hb => ?_) (fun hb => ?_)
            · have hltj : j < d.length := by simpa using hb
              have hwj : IntKind.i64.wrap ((j : Int) + 1) = ((j + 1 : Nat) : Int) := by rw [z23 (by omega)]; simp
              obtain ⟨g, hgj⟩ : ∃ g, d[j]? = some g := ⟨_, List.getElem?_eq_getElem hltj⟩
              obtain ⟨n, hnj⟩ : ∃ n, r[j]? = some n := ⟨_, List.getElem?_eq_getElem (by omega)⟩
              have g3 := z114 hgj
              have g4 := z48 hnj
              rw [Diners.row] at g3
              have hnjj : ¬ ((j : Int) < 0) := by omega
              have hc := h137 n g
              rw [Diners.row] at hc
              rw [z30 hgj, z30 hnj, rowOk] at hRj
              cases q3 : q n g
              · rw [q3] at hRj hc
                rw [Bool.false_and, Bool.false_and] at hRj
                rw [hRj]
                repeat (first | refine z14 ?_ | refine z9 ?_ | refine z7 ?_ | (refine z5 fun K hK => ?_; simp (maxSteps := 4000000) only [go_sem, g3]; refine hK _ ?_; clear hK K) | refine z13 ?_ | refine z15 ?_ | refine z10 ?_ | refine z8 ?_ | refine z6 rfl ?_ | refine z12 ?_ | refine z3 ?_ | refine z16 ?_ | refine z11 ?_ | refine z4 ?_)
                refine z24 (by kernel_rfl) (by kernel_rfl) fun K hK => ?_
                simp (maxSteps := 4000000) only [go_sem, g2, g4, hni, hnjj]
                refine ⟨_, .fn (hf := hc) (hd := rfl) (hr := .inl rfl), ?_⟩
                simp (maxSteps := 4000000) only [go_sem]
                refine ⟨by kernel_rfl, hK _ ?_⟩
                clear hK K
                repeat (first | refine z18 rfl ?_ | refine z17 rfl ?_ | refine z14 ?_ | refine z9 ?_ | refine z7 ?_ | (refine z5 fun K hK => ?_; simp (maxSteps := 4000000) only [go_sem]; refine hK _ ?_; clear hK K) | refine z13 ?_ | refine z15 ?_ | refine z10 ?_ | refine z8 ?_ | refine z6 rfl ?_ | refine z12 ?_ | refine z3 ?_ | refine z16 ?_ | refine z11 ?_ | refine z4 ?_)
                simp (maxSteps := 4000000) only [go_sem]
              · rw [q3] at hRj hc
                rw [Bool.true_and] at hRj
                repeat (first | refine z14 ?_ | refine z9 ?_ | refine z7 ?_ | (refine z5 fun K hK => ?_; simp (maxSteps := 4000000) only [go_sem, g3]; refine hK _ ?_; clear hK K) | refine z13 ?_ | refine z15 ?_ | refine z10 ?_ | refine z8 ?_ | refine z6 rfl ?_ | refine z12 ?_ | refine z3 ?_ | refine z16 ?_ | refine z11 ?_ | refine z4 ?_)
                refine z24 (by kernel_rfl) (by kernel_rfl) fun K hK => ?_
                simp (maxSteps := 4000000) only [go_sem, g2, g4, hni, hnjj]
                refine ⟨_, .fn (hf := hc) (hd := rfl) (hr := .inl rfl), ?_⟩
                simp (maxSteps := 4000000) only [go_sem]
                refine ⟨by kernel_rfl, hK _ ?_⟩
                clear hK K
                repeat (first | refine z18 rfl ?_ | refine z17 rfl ?_ | refine z14 ?_ | refine z9 ?_ | refine z7 ?_ | (refine z5 fun K hK => ?_; simp (maxSteps := 4000000) only [go_sem, hwj]; refine hK _ ?_; clear hK K) | refine z13 ?_ | refine z15 ?_ | refine z10 ?_ | refine z8 ?_ | refine z6 rfl ?_ | refine z12 ?_ | refine z3 ?_ | refine z16 ?_ | refine z11 ?_ | refine z4 ?_)
                refine ⟨rfl, j + 1, ?_, ⟨hltj, hRj⟩, by omega⟩
                refine z19 [] ?_ ?_ rfl rfl <;> simp [lessT, lessM, lessB, AV.less]
            · have he : j = d.length := by (have : ¬ j < d.length := by simpa using hb); omega
              subst he
              rw [List.drop_length, ← hrl, List.drop_length, rowOk, Bool.true_and] at hRj
              repeat (first | refine z14 ?_ | refine z9 ?_ | refine z7 ?_ | (refine z5 fun K hK => ?_; simp (maxSteps := 4000000) only [go_sem, hw]; refine hK _ ?_; clear hK K) | refine z13 ?_ | refine z15 ?_ | refine z10 ?_ | refine z8 ?_ | refine z6 rfl ?_ | refine z12 ?_ | refine z3 ?_ | refine z16 ?_ | refine z11 ?_ | refine z4 ?_)
              refine ⟨rfl, i + 1, ?_, ⟨hlt, hRj⟩, by omega⟩
              refine z19 [] ?_ ?_ rfl rfl <;> simp [lessT, lessM, lessB, AV.less]
        · have hf : rowOk q r d = false := by
            cases hx : rowOk q r d with
            | false => rfl
            | true =>
              have := z174 hx
              rw [this] at q2
              simp at q2
          rw [hf, Bool.false_and] at hRi
          rw [hRi]
          repeat (first | refine z18 rfl ?_ | refine z17 rfl ?_ | refine z14 ?_ | refine z9 ?_ | refine z7 ?_ | (refine z5 fun K hK => ?_; simp (maxSteps := 4000000) only [go_sem, g1, g2, hni, q2]; refine hK _ ?_; clear hK K) | refine z13 ?_ | refine z15 ?_ | refine z10 ?_ | refine z8 ?_ | refine z6 rfl ?_ | refine z12 ?_ | refine z3 ?_ | refine z16 ?_ | refine z11 ?_ | refine z4 ?_)
          simp (maxSteps := 4000000) only [go_sem]
      · have he : i = k.days.length := by (have : ¬ i < k.days.length := by simpa using hb); omega
        subst he
        rw [List.drop_length, ← hl, List.drop_length, shapedB] at hRi
        rw [hRi]
        repeat (first | refine z14 ?_ | refine z9 ?_ | refine z7 ?_ | (refine z5 fun K hK => ?_; simp (maxSteps := 4000000) only [go_sem]; refine hK _ ?_; clear hK K) | refine z13 ?_ | refine z15 ?_ | refine z10 ?_ | refine z8 ?_ | refine z6 rfl ?_ | refine z12 ?_ | refine z3 ?_ | refine z16 ?_ | refine z11 ?_ | refine z4 ?_)
        simp (maxSteps := 4000000) only [go_sem]
  · have hf : R = false := by
      rw [hR]
      cases hx : shapedB q M k.days with
      | false => rfl
      | true =>
        have := z74 hx
        rw [this] at q1
        simp at q1
    rw [hf]
    refine z21 55 Tryz.call57 Tryz.func57 rfl (by decide) fun J => ?_
    simp (maxSteps := 4000000) only [go_sem, St.start, Tryz.ntmps57, Tryz.results57, Kitchen.cells]
    repeat (first | refine z18 rfl ?_ | refine z17 rfl ?_ | refine z14 ?_ | refine z9 ?_ | refine z7 ?_ | (refine z5 fun K hK => ?_; simp (maxSteps := 4000000) only [go_sem, q1]; refine hK _ ?_; clear hK K) | refine z13 ?_ | refine z15 ?_ | refine z10 ?_ | refine z8 ?_ | refine z6 rfl ?_ | refine z12 ?_ | refine z3 ?_ | refine z16 ?_ | refine z11 ?_ | refine z4 ?_)
    simp (maxSteps := 4000000) only [go_sem]
def openK (k : Kitchen) (M : List (List Int)) : Int := if kitE k = 0 then (if shapedB (menuB k) M k.days then 0 else 71) else kitE k
theorem zf41 (k : Kitchen) (M : List (List Int)) (hs : KitSmall k) (hM : M.length < 2 ^ 30) (hMr : ∀ r ∈ M, r.length < 2 ^ 30) : Fn Tryz.prog 41 [.agg k.cells, .sl (listRows M)] (.tup [.agg k.cells, .i (openK k M)]) := by
  have h135 := zf61 k hs
  unfold openK
  rw [Kitchen.cells] at h135
  by_cases h0 : kitE k = 0
  · rw [if_pos h0]
    rw [h0] at h135
    have h136 := zf57m k (z179 (z144.1 h0)) M hM hMr
    rw [Kitchen.cells] at h136
    cases q : shapedB (menuB k) M k.days
    · rw [q] at h136
      refine z21 24 Tryz.call41 Tryz.func41 rfl (by decide) fun J => ?_
      simp (maxSteps := 4000000) only [go_sem, St.start, Tryz.ntmps41, Tryz.results41, Kitchen.cells]
      repeat (first | refine z18 rfl ?_ | refine z17 rfl ?_ | refine z14 ?_ | refine z9 ?_ | refine z7 ?_ | (refine z5 fun K hK => ?_; simp (maxSteps := 4000000) only [go_sem]; (repeat (first | (refine ⟨_, .lent (hf := h135) (hd := rfl) (hr := rfl), ?_⟩; simp (maxSteps := 4000000) only [go_sem]) | (refine ⟨_, .lent (hf := h136) (hd := rfl) (hr := rfl), ?_⟩; simp (maxSteps := 4000000) only [go_sem]) | (refine ⟨_, .given (hf := h135) (hd := rfl) (ha := rfl), ?_⟩; simp (maxSteps := 4000000) only [go_sem]) | (refine ⟨_, .given (hf := h136) (hd := rfl) (ha := rfl), ?_⟩; simp (maxSteps := 4000000) only [go_sem]))); refine hK _ ?_; clear hK K) | refine z13 ?_ | refine z15 ?_ | refine z10 ?_ | refine z8 ?_ | refine z6 rfl ?_ | refine z12 ?_ | refine z3 ?_ | refine z16 ?_ | refine z11 ?_ | refine z4 ?_)
      simp (maxSteps := 4000000) only [go_sem]
    · rw [q] at h136
      refine z21 24 Tryz.call41 Tryz.func41 rfl (by decide) fun J => ?_
      simp (maxSteps := 4000000) only [go_sem, St.start, Tryz.ntmps41, Tryz.results41, Kitchen.cells]
      repeat (first | refine z18 rfl ?_ | refine z17 rfl ?_ | refine z14 ?_ | refine z9 ?_ | refine z7 ?_ | (refine z5 fun K hK => ?_; simp (maxSteps := 4000000) only [go_sem]; (repeat (first | (refine ⟨_, .lent (hf := h135) (hd := rfl) (hr := rfl), ?_⟩; simp (maxSteps := 4000000) only [go_sem]) | (refine ⟨_, .lent (hf := h136) (hd := rfl) (hr := rfl), ?_⟩; simp (maxSteps := 4000000) only [go_sem]) | (refine ⟨_, .given (hf := h135) (hd := rfl) (ha := rfl), ?_⟩; simp (maxSteps := 4000000) only [go_sem]) | (refine ⟨_, .given (hf := h136) (hd := rfl) (ha := rfl), ?_⟩; simp (maxSteps := 4000000) only [go_sem]))); refine hK _ ?_; clear hK K) | refine z13 ?_ | refine z15 ?_ | refine z10 ?_ | refine z8 ?_ | refine z6 rfl ?_ | refine z12 ?_ | refine z3 ?_ | refine z16 ?_ | refine z11 ?_ | refine z4 ?_)
      simp (maxSteps := 4000000) only [go_sem]
  · rw [if_neg h0]
    have hz : (kitE k != 0) = true := by simpa using h0
    obtain ⟨e, he⟩ : ∃ e, e = kitE k := ⟨_, rfl⟩
    rw [← he] at h135 hz ⊢
    refine z21 24 Tryz.call41 Tryz.func41 rfl (by decide) fun J => ?_
    simp (maxSteps := 4000000) only [go_sem, St.start, Tryz.ntmps41, Tryz.results41, Kitchen.cells]
    repeat (first | refine z18 rfl ?_ | refine z17 rfl ?_ | refine z14 ?_ | refine z9 ?_ | refine z7 ?_ | (refine z5 fun K hK => ?_; simp (maxSteps := 4000000) only [go_sem, hz]; (repeat (first | (refine ⟨_, .lent (hf := h135) (hd := rfl) (hr := rfl), ?_⟩; simp (maxSteps := 4000000) only [go_sem, hz]) | (refine ⟨_, .given (hf := h135) (hd := rfl) (ha := rfl), ?_⟩; simp (maxSteps := 4000000) only [go_sem, hz]))); refine hK _ ?_; clear hK K) | refine z13 ?_ | refine z15 ?_ | refine z10 ?_ | refine z8 ?_ | refine z6 rfl ?_ | refine z12 ?_ | refine z3 ?_ | refine z16 ?_ | refine z11 ?_ | refine z4 ?_)
    simp (maxSteps := 4000000) only [go_sem]
end Go.Ab
/- Memory of the call's own that is handed over whole; drawn regions whose calls stand in an order. -/
namespace Go.Ab
open Go.RowKit
theorem CallR.own {P : Program} {st : St} {dst : Option Tmp} {g : FuncId} {xs : List AV} {m0 : List Blk} {pins : List Nat} {args : List AV} {r : AV} {m1 : List Blk} (ns news bads rd : List Nat) (hf : FnG P g m0 pins args r m1)
    (hnd : (ns ++ news).Nodup) (hl0 : ns.length = m0.length) (hl1 : (ns ++ news).length = m1.length) (hm : blksG st ns ns m0) (hnew : news.all st.fresh = true) (hla : xs.length = args.length)
    (ha : ∀ (i : Nat) x y, xs[i]? = some x → args[i]? = some y → argG st ns rd x y) (hrd : rd.all (fun n => !ns.contains n) = true) (hsh : shutG st rd) (hb : (List.range ns.length).all (fun i => pins.contains i || bads.contains (ns.getD i 0)) = true)
    (hfl : rd = [] ∨ (r.flatA = true ∧ m1.all Blk.flatB = true)) :
    CallR P st dst g xs (({ (st.keep bads) with m := putM (ns ++ news) (m1.map (Blk.mapN fun i => (ns ++ news)[i]?)) (st.keep bads).m } : St).put dst (r.mapN fun i => (ns ++ news)[i]?)) :=
  CallR.gen m0 pins args r m1 ns news rd bads hf hnd hl0 hl1 (z282 hm).2 (fun n hn => z36 (List.all_eq_true.1 hnew n hn)) hla ha (fun n hn => by simpa using List.all_eq_true.1 hrd n hn) hsh
    (fun i n hi hn => by
      have hil := (List.getElem?_eq_some_iff.1 hi).1
      have := List.all_eq_true.1 hb i (List.mem_range.2 hil)
      rw [Bool.or_eq_true] at this
      rcases this with h | h
      · simpa using h
      · rw [List.getD, hi] at h
        exact absurd (by simpa using h) hn) hfl
theorem z43 (st : St) : shutG st [] := fun n hn => by cases hn
theorem flatB_int {e z : Nat} {rows : List (List DV)} (h : rowsFlat rows) : Blk.flatB (.arr e z rows) = true := by
  simp only [Blk.flatB, List.all_eq_true]
  intro r hr
  exact h r hr
def offM (m : Nat → Bool) (i : Nat) : Nat → Bool := fun j => if j = i then false else m j
def depsM (m : Nat → Bool) : List Edge → Prop
  | [] => True
  | e :: es => (Region.binds .any e = true → m e.on = false) ∧ depsM m es
theorem depsM_of {m : Nat → Bool} : ∀ {es : List Edge}, (∀ e ∈ es, Region.binds .any e = true → m e.on = false) → depsM m es
  | [], _ => trivial
  | e :: es, h => ⟨h e (by simp), depsM_of fun e he => h e (by simp [he])⟩
def stepsM (P : Program) (G : (Nat → Bool) → St) : List Oper → Nat → Prop
  | [], _ => True
  | o :: os, i => (∀ m : Nat → Bool, m i = true → depsM m o.after.toList → dstOk o = true ∧ o.guard = none ∧ stepK P o (G m) (fun s => s = G (offM m i))) ∧ stepsM P G os (i + 1)
def StepM (P : Program) (G : (Nat → Bool) → St) (o : Oper) (i : Nat) : Prop := ∀ m : Nat → Bool, m i = true → depsM m o.after.toList → dstOk o = true ∧ o.guard = none ∧ stepK P o (G m) (fun s => s = G (offM m i))
theorem anc_lt {ops : Array Oper} (hb : backB ops = true) {i j : Nat} (h : Anc ops i j) : i < j := by
  induction h with
  | edge ho he hbi => exact z287 hb ho he hbi
  | step _ _ h1 h2 => omega
structure LeftC (ops : Array Oper) (G : (Nat → Bool) → St) (rs : List Nat) (s s' : St) : Prop where
  now : s = G fun i => rs.contains i
  fin : s' = G fun _ => false
  nodup : rs.Nodup
  ord : rs.Pairwise fun a b => ¬ Anc ops b a
  size : ∀ i ∈ rs, i < ops.size
section
variable {P : Program} {rd : Option Nat} {n : Nat} {J : Env} {ops : Array Oper} {cs : List Code} {k : Option Nat} {st : St} {Q : Exit → Option Nat → St → Prop}
end
attribute [go_sem] offM
end Go.Ab
