/- A walk engine over abstract states, and the contracts of the functions that the statement reaches: what one more statement needs. -/
import Derived.Test.YtfkbbaagifpjpaaWe
set_option linter.unusedVariables false
set_option linter.unusedSimpArgs false
set_option linter.unnecessarySimpa false
namespace Go.Ab
open Go.RowKit Go.Proofs
theorem tab_tsz_0 : tsz Try.prog 0 = (some 1) := by kernel_rfl
theorem tab_tbytes_0 : tbytes Try.prog 0 = (some 0) := by kernel_rfl
theorem tab_tagg_0 : tagg Try.prog 0 = (some false) := by kernel_rfl
theorem tab_tsz_1 : tsz Try.prog 1 = (some 1) := by kernel_rfl
theorem tab_tbytes_1 : tbytes Try.prog 1 = (some 8) := by kernel_rfl
theorem tab_tagg_1 : tagg Try.prog 1 = (some false) := by kernel_rfl
theorem tab_tsz_2 : tsz Try.prog 2 = (some 1) := by kernel_rfl
theorem tab_tbytes_2 : tbytes Try.prog 2 = (some 8) := by kernel_rfl
theorem tab_tagg_2 : tagg Try.prog 2 = (some false) := by kernel_rfl
theorem tab_tint_2 : tint Try.prog 2 = (some IntKind.i64) := by kernel_rfl
theorem tab_tsz_3 : tsz Try.prog 3 = (some 1) := by kernel_rfl
theorem tab_tbytes_3 : tbytes Try.prog 3 = (some 8) := by kernel_rfl
theorem tab_tagg_3 : tagg Try.prog 3 = (some false) := by kernel_rfl
theorem tab_tint_3 : tint Try.prog 3 = (some IntKind.i64) := by kernel_rfl
theorem tab_tsz_4 : tsz Try.prog 4 = (some 1) := by kernel_rfl
theorem tab_tbytes_4 : tbytes Try.prog 4 = (some 1) := by kernel_rfl
theorem tab_tagg_4 : tagg Try.prog 4 = (some false) := by kernel_rfl
theorem tab_tsz_5 : tsz Try.prog 5 = (some 1) := by kernel_rfl
theorem tab_tbytes_5 : tbytes Try.prog 5 = (some 1) := by kernel_rfl
theorem tab_tagg_5 : tagg Try.prog 5 = (some false) := by kernel_rfl
theorem tab_tint_5 : tint Try.prog 5 = (some IntKind.u8) := by kernel_rfl
theorem tab_tsz_22 : tsz Try.prog 22 = (some 1) := by kernel_rfl
theorem tab_tbytes_22 : tbytes Try.prog 22 = (some 24) := by kernel_rfl
theorem tab_tagg_22 : tagg Try.prog 22 = (some false) := by kernel_rfl
theorem tab_tslice_22 : tslice Try.prog 22 = (some 56) := by kernel_rfl
theorem tab_tsz_24 : tsz Try.prog 24 = (some 2) := by kernel_rfl
theorem tab_tbytes_24 : tbytes Try.prog 24 = (some 32) := by kernel_rfl
theorem tab_tagg_24 : tagg Try.prog 24 = (some true) := by kernel_rfl
theorem tab_tfields_24 : tfields Try.prog 24 = (some [(0, (1, false)), (1, (1, false))]) := by kernel_rfl
theorem tab_tsz_26 : tsz Try.prog 26 = (some 2) := by kernel_rfl
theorem tab_tbytes_26 : tbytes Try.prog 26 = (some 16) := by kernel_rfl
theorem tab_tagg_26 : tagg Try.prog 26 = (some true) := by kernel_rfl
theorem tab_tfields_26 : tfields Try.prog 26 = (some [(0, (1, false)), (1, (1, false))]) := by kernel_rfl
theorem tab_teq_26 : teq Try.prog 26 = (some [(0, false), (1, false)]) := by kernel_rfl
theorem tab_tsz_28 : tsz Try.prog 28 = (some 4) := by kernel_rfl
theorem tab_tbytes_28 : tbytes Try.prog 28 = (some 32) := by kernel_rfl
theorem tab_tagg_28 : tagg Try.prog 28 = (some true) := by kernel_rfl
theorem tab_tfields_28 : tfields Try.prog 28 = (some [(0, (1, false)), (1, (1, false)), (2, (2, true))]) := by kernel_rfl
theorem tab_teq_28 : teq Try.prog 28 = (some [(0, false), (1, false), (2, false), (3, false)]) := by kernel_rfl
theorem tab_tsz_31 : tsz Try.prog 31 = (some 9) := by kernel_rfl
theorem tab_tbytes_31 : tbytes Try.prog 31 = (some 88) := by kernel_rfl
theorem tab_tagg_31 : tagg Try.prog 31 = (some true) := by kernel_rfl
theorem tab_tfields_31 : tfields Try.prog 31 = (some [(0, (4, true)), (4, (1, false)), (5, (1, false)), (6, (1, false)), (7, (1, false)), (8, (1, false))]) := by kernel_rfl
theorem tab_tsz_32 : tsz Try.prog 32 = (some 1) := by kernel_rfl
theorem tab_tbytes_32 : tbytes Try.prog 32 = (some 24) := by kernel_rfl
theorem tab_tagg_32 : tagg Try.prog 32 = (some false) := by kernel_rfl
theorem tab_tslice_32 : tslice Try.prog 32 = (some 3) := by kernel_rfl
theorem tab_tsz_36 : tsz Try.prog 36 = (some 1) := by kernel_rfl
theorem tab_tbytes_36 : tbytes Try.prog 36 = (some 8) := by kernel_rfl
theorem tab_tagg_36 : tagg Try.prog 36 = (some false) := by kernel_rfl
theorem tab_tint_36 : tint Try.prog 36 = (some IntKind.i64) := by kernel_rfl
theorem tab_tsz_50 : tsz Try.prog 50 = (some 7) := by kernel_rfl
theorem tab_tbytes_50 : tbytes Try.prog 50 = (some 56) := by kernel_rfl
theorem tab_tagg_50 : tagg Try.prog 50 = (some true) := by kernel_rfl
theorem tab_tfields_50 : tfields Try.prog 50 = (some [(0, (4, true)), (4, (1, false)), (5, (1, false)), (6, (1, false))]) := by kernel_rfl
theorem tab_tsz_54 : tsz Try.prog 54 = (some 1) := by kernel_rfl
theorem tab_tbytes_54 : tbytes Try.prog 54 = (some 24) := by kernel_rfl
theorem tab_tagg_54 : tagg Try.prog 54 = (some false) := by kernel_rfl
theorem tab_tslice_54 : tslice Try.prog 54 = (some 26) := by kernel_rfl
theorem tab_tsz_56 : tsz Try.prog 56 = (some 8) := by kernel_rfl
theorem tab_tbytes_56 : tbytes Try.prog 56 = (some 80) := by kernel_rfl
theorem tab_tagg_56 : tagg Try.prog 56 = (some true) := by kernel_rfl
theorem tab_tfields_56 : tfields Try.prog 56 = (some [(0, (1, false)), (1, (1, false)), (2, (1, false)), (3, (2, true)), (5, (2, true)), (7, (1, false))]) := by kernel_rfl
theorem tab_zero_1 : tzero Try.prog 1 = some Value.nilFunc := by kernel_rfl
theorem tab_zero_2 : tzero Try.prog 2 = some (Value.int IntKind.i64 0) := by kernel_rfl
theorem tab_zero_3 : tzero Try.prog 3 = some (Value.int IntKind.i64 0) := by kernel_rfl
theorem tab_zero_4 : tzero Try.prog 4 = some (Value.bool false) := by kernel_rfl
theorem tab_zero_5 : tzero Try.prog 5 = some (Value.int IntKind.u8 0) := by kernel_rfl
theorem tab_zero_22 : tzero Try.prog 22 = some (Value.slice none 0 0) := by kernel_rfl
theorem tab_zero_24 : tzero Try.prog 24 = some (Value.agg #[Value.int IntKind.i64 0, Value.slice none 0 0]) := by kernel_rfl
theorem tab_zero_26 : tzero Try.prog 26 = some (Value.agg #[Value.int IntKind.i64 0, Value.int IntKind.i64 0]) := by kernel_rfl
theorem tab_zero_28 : tzero Try.prog 28 = some (Value.agg #[Value.int IntKind.i64 0, Value.int IntKind.i64 0, Value.int IntKind.i64 0, Value.int IntKind.i64 0]) := by kernel_rfl
theorem tab_zero_31 : tzero Try.prog 31 = some (Value.agg #[Value.int IntKind.i64 0, Value.int IntKind.i64 0, Value.int IntKind.i64 0, Value.int IntKind.i64 0, Value.int IntKind.i64 0, Value.int IntKind.i64 0, Value.int IntKind.i64 0, Value.int IntKind.i64 0, Value.slice none 0 0]) := by kernel_rfl
theorem tab_zero_32 : tzero Try.prog 32 = some (Value.slice none 0 0) := by kernel_rfl
theorem tab_zero_36 : tzero Try.prog 36 = some (Value.int IntKind.i64 0) := by kernel_rfl
theorem tab_zero_50 : tzero Try.prog 50 = some (Value.agg #[Value.int IntKind.i64 0, Value.int IntKind.i64 0, Value.int IntKind.i64 0, Value.int IntKind.i64 0, Value.int IntKind.i64 0, Value.int IntKind.i64 0, Value.int IntKind.i64 0]) := by kernel_rfl
theorem tab_zero_54 : tzero Try.prog 54 = some (Value.slice none 0 0) := by kernel_rfl
theorem tab_zero_56 : tzero Try.prog 56 = some (Value.agg #[Value.int IntKind.i64 0, Value.int IntKind.i64 0, Value.int IntKind.i64 0, Value.int IntKind.i64 0, Value.int IntKind.i64 0, Value.int IntKind.i64 0, Value.int IntKind.i64 0, Value.slice none 0 0]) := by kernel_rfl
attribute [go_sem] tab_tsz_0 tab_tbytes_0 tab_tagg_0 tab_tsz_1 tab_tbytes_1 tab_tagg_1 tab_tsz_2 tab_tbytes_2 tab_tagg_2 tab_tint_2 tab_tsz_3 tab_tbytes_3 tab_tagg_3 tab_tint_3 tab_tsz_4 tab_tbytes_4 tab_tagg_4 tab_tsz_5 tab_tbytes_5 tab_tagg_5 tab_tint_5 tab_tsz_22 tab_tbytes_22 tab_tagg_22 tab_tslice_22 tab_tsz_24 tab_tbytes_24 tab_tagg_24 tab_tfields_24 tab_tsz_26 tab_tbytes_26 tab_tagg_26 tab_tfields_26 tab_teq_26 tab_tsz_28 tab_tbytes_28 tab_tagg_28 tab_tfields_28 tab_teq_28 tab_tsz_31 tab_tbytes_31 tab_tagg_31 tab_tfields_31 tab_tsz_32 tab_tbytes_32 tab_tagg_32 tab_tslice_32 tab_tsz_36 tab_tbytes_36 tab_tagg_36 tab_tint_36 tab_tsz_50 tab_tbytes_50 tab_tagg_50 tab_tfields_50 tab_tsz_54 tab_tbytes_54 tab_tagg_54 tab_tslice_54 tab_tsz_56 tab_tbytes_56 tab_tagg_56 tab_tfields_56 tab_zero_1 tab_zero_2 tab_zero_3 tab_zero_4 tab_zero_5 tab_zero_22 tab_zero_24 tab_zero_26 tab_zero_28 tab_zero_31 tab_zero_32 tab_zero_36 tab_zero_50 tab_zero_54 tab_zero_56
end Go.Ab
namespace Go.Ab
open Go.RowKit Go.Proofs
theorem zf15 (x : Int) : Fn Try.prog 15 [.i x] (.bool (withinB x 0 2880)) := by
  refine z12 5 Try.call15 Try.func15 rfl (by decide) fun J => ?_
  simp (maxSteps := 4000000) only [go_sem, St.start, Try.ntmps15, Try.results15]
  repeat (first | refine z33 ?_ | refine z52 ?_ | refine z49 ?_ | (refine z3 fun K hK => ?_; simp (maxSteps := 4000000) only [go_sem]; (repeat (first | (refine ⟨_, .lent (hf := z1128 _ _ _) (hd := rfl) (hr := rfl), ?_⟩; simp (maxSteps := 4000000) only [go_sem]) | (refine ⟨_, .given (hf := z1128 _ _ _) (hd := rfl) (ha := rfl), ?_⟩; simp (maxSteps := 4000000) only [go_sem]))); refine hK _ ?_; clear hK K) | refine z8 ?_ | refine z167 ?_ | refine z85 ?_ | refine z59 ?_ | refine z105 rfl ?_ | refine z95 ?_ | refine z82 ?_ | refine z119 ?_ | refine z87 ?_ | refine z5 ?_)
  simp (maxSteps := 4000000) only [go_sem]
end Go.Ab
namespace Go.Ab
open Go.RowKit Go.Proofs
set_option maxHeartbeats 4000000
set_option maxRecDepth 20000
attribute [local irreducible] WalkL Walk
theorem map_getI (f : Int → Int) (l : List Int) (i : Int) (h : i.toNat < l.length) : getI (l.map f) i = f (getI l i) := by
  unfold getI; simp [h]
end Go.Ab
namespace Go.Ab
open Go.RowKit Go.Proofs
set_option maxHeartbeats 4000000
set_option maxRecDepth 20000
attribute [local irreducible] WalkL Walk
theorem spanRows_head (l : List Span) : headIs 2 (l.map Span.row) = true := by cases l <;> rfl
/-- .. in memory of its own. -/
theorem zf16m (n : Net) (hs : n.Small) : FnG Try.prog 16 [] [] [.d (.agg n.cells)] (.agg [.d (.i n.places), .own 0]) [.arr 56 8 (n.paths.map Path.row)] := by
  have hpl := hs.paths
  refine z157 33 Try.call16 Try.func16 rfl (by decide) [30] [] (by simp only [List.length_cons, List.length_nil]; decide) (by kernel_rfl) fun J => ?_
  simp (maxSteps := 4000000) only [go_sem, St.startG, Try.ntmps16, Try.results16, List.map_cons, List.map_nil, List.range_succ,  Net.cells]
  repeat (first | refine z33 ?_ | refine z52 ?_ | refine z49 ?_ | (refine z3 fun K hK => ?_; simp (maxSteps := 4000000) only [go_sem]; refine hK _ ?_; clear hK K) | refine z8 ?_ | refine z167 ?_ | refine z85 ?_ | refine z59 ?_ | refine z105 rfl ?_ | refine z95 ?_ | refine z82 ?_ | refine z119 ?_ | refine z87 ?_ | refine z5 ?_)
  refine z18 (fun (i : Nat) => [(4, .d (.i i))]) (fun i => [(3, some (.box [.d (.i n.places), .own 30])), (30, some (.arr 56 8 ((n.paths.take i).map Path.row)))]) (fun i => i ≤ n.paths.length) (fun i => n.paths.length - i) 0 ?_ (Nat.zero_le _) ?_
  · simp (maxSteps := 4000000) only [go_sem]
    refine z32 [30] ?_ ?_ rfl rfl <;> simp [lessT, lessM, lessB, AV.less]
  · intro i hi
    simp (maxSteps := 4000000) only [go_sem]
    repeat (first | refine z33 ?_ | refine z52 ?_ | refine z49 ?_ | (refine z3 fun K hK => ?_; simp (maxSteps := 4000000) only [go_sem]; refine hK _ ?_; clear hK K) | refine z8 ?_ | refine z167 ?_ | refine z85 ?_ | refine z59 ?_ | refine z105 rfl ?_ | refine z95 ?_ | refine z82 ?_ | refine z119 ?_ | refine z87 ?_ | refine z5 ?_)
    refine z4 rfl (fun hb => ?_) (fun hb => ?_)
    · have hlt : i < n.paths.length := by simpa using hb
      have hw : IntKind.i64.wrap ((i : Int) + 1) = ((i + 1 : Nat) : Int) := by rw [z9 (by omega)]; simp
      obtain ⟨x, hx⟩ : ∃ x, n.paths[i]? = some x := ⟨_, List.getElem?_eq_getElem hlt⟩
      have hxo := hs.opens x (List.mem_of_getElem? hx)
      have h1 : x.opens.length ≤ 549755813888 := by omega
      have h2 : min i n.paths.length + 1 ≤ 549755813888 := by omega
      have h3 : (n.paths.take (i + 1)).map Path.row = (n.paths.take i).map Path.row ++ [x.row] := by rw [List.take_add_one, hx]; simp
      repeat (first | refine z33 ?_ | refine z52 ?_ | refine z49 ?_ | (refine z3 fun K hK => ?_; simp (maxSteps := 4000000) only [go_sem, hx, List.getElem?_map, Path.row, h1, h2, spanRows_head, List.length_take, hw]; refine hK _ ?_; clear hK K) | refine z8 ?_ | refine z167 ?_ | refine z85 ?_ | refine z59 ?_ | refine z105 rfl ?_ | refine z95 ?_ | refine z82 ?_ | refine z119 ?_ | refine z87 ?_ | refine z5 ?_)
      refine ⟨rfl, i + 1, ?_, hlt, by omega⟩
      rw [h3]
      refine z32 [] ?_ ?_ rfl rfl <;> simp [lessT, lessM, lessB, AV.less]
      first | done | rfl
    · have he : i = n.paths.length := by (have : ¬ i < n.paths.length := by simpa using hb); omega
      subst he
      repeat (first | refine z33 ?_ | refine z52 ?_ | refine z49 ?_ | (refine z3 fun K hK => ?_; simp (maxSteps := 4000000) only [go_sem]; refine hK _ ?_; clear hK K) | refine z8 ?_ | refine z167 ?_ | refine z85 ?_ | refine z59 ?_ | refine z105 rfl ?_ | refine z95 ?_ | refine z82 ?_ | refine z119 ?_ | refine z87 ?_ | refine z5 ?_)
      simp (maxSteps := 4000000) only [go_sem, List.take_length, retG]
end Go.Ab
namespace Go.Ab
open Go.RowKit Go.Proofs
set_option maxHeartbeats 1000000
section
variable {n : Net} {p : Party}
/-- An arrival that there is: the minute of entering, and the time. -/
theorem arrive_enter {opens : List Span} {t d : Int} (ht : 0 ≤ t) (hd : okTime d) (h : arriveF opens t d ≤ 2880) : arriveF opens t d = enterF opens t + d ∧ enterF opens t < never ∧ t ≤ enterF opens t := by
  have hv : never = 1073741824 := rfl
  rw [z703 ht hd] at h ⊢
  split at h
  · omega
  · rename_i hn
    rw [if_neg hn]
    have h1 : enterF opens t < never := by unfold okTime at hd; omega
    exact ⟨rfl, h1, z538 h1⟩
end
end Go.Ab
namespace Go.Ab
open Go.RowKit Go.Proofs
set_option maxHeartbeats 2000000
/-- A chain of ways from a place to a place, over these places in between, and what it costs. -/
inductive ChainW (n : Net) (p : Party) : List Nat → Nat → Nat → Int → Prop
  | nil (a : Nat) : ChainW n p [] a a 0
  | one {w : Nat × Path} (hw : w ∈ canL n p) : ChainW n p [] w.2.frm.toNat w.2.to.toNat (spanW w.2 p).hi
  | app {l1 l2 : List Nat} {a v b : Nat} {c d : Int} (h1 : ChainW n p l1 a v c) (h2 : ChainW n p l2 v b d) : ChainW n p (l1 ++ v :: l2) a b (c + d)
/-- Every entry is a way's cost, or as good as none. -/
def SoundM (n : Net) (p : Party) (F : Mat) : Prop := ∀ a b, 0 ≤ F a b ∧ F a b ≤ farW ∧ (F a b < farW → ∃ l, ChainW n p l a b (F a b))
theorem zero_sound (n : Net) (p : Party) : SoundM n p zeroM := fun a b => by
  rw [zeroM]
  by_cases h : a = b
  · subst h; rw [if_pos rfl]; exact ⟨Int.le_refl _, by decide, fun _ => ⟨_, .nil a⟩⟩
  · rw [if_neg h]; exact ⟨by decide, Int.le_refl _, fun hc => absurd hc (Int.lt_irrefl _)⟩
theorem relax_sound {n : Net} {p : Party} {F : Mat} {w : Nat × Path} (hw : w ∈ canL n p) (h0 : 0 ≤ (spanW w.2 p).hi) (h : SoundM n p F) : SoundM n p (relaxM p F w) := fun a b => by
  rw [relaxM, updM]
  split
  · rename_i hc
    obtain ⟨h1, h2, h3⟩ := h w.2.frm.toNat w.2.to.toNat
    rw [hc.1, hc.2]
    by_cases hm : F w.2.frm.toNat w.2.to.toNat ≤ (spanW w.2 p).hi
    · rw [Int.min_eq_left hm]; exact ⟨h1, h2, h3⟩
    · rw [Int.min_eq_right (by omega)]; exact ⟨h0, by omega, fun _ => ⟨_, .one hw⟩⟩
  · exact h a b
theorem via_eq {n : Net} {p : Party} {F : Mat} (h : SoundM n p F) (v a b : Nat) : wr (F a v + F v b) = F a v + F v b := by
  have h1 := h a v
  have h2 := h v b
  have : farW = 1099511627776 := rfl
  exact z9 (by omega)
theorem via_sound {n : Net} {p : Party} {F : Mat} (h : SoundM n p F) (v x y : Nat) : SoundM n p (viaM v F x y) := fun a b => by
  rw [viaM, updM, via_eq h]
  split
  · rename_i hc
    rw [hc.1, hc.2]
    obtain ⟨h1, h2, h3⟩ := h x y
    obtain ⟨g1, g2, g3⟩ := h x v
    obtain ⟨k1, k2, k3⟩ := h v y
    by_cases hm : F x y ≤ F x v + F v y
    · rw [Int.min_eq_left hm]; exact ⟨h1, h2, h3⟩
    · rw [Int.min_eq_right (by omega)]
      refine ⟨by omega, by omega, fun hl => ?_⟩
      obtain ⟨l1, c1⟩ := g3 (by omega)
      obtain ⟨l2, c2⟩ := k3 (by omega)
      exact ⟨_, .app c1 c2⟩
  · exact h a b
theorem via_le {n : Net} {p : Party} {F : Mat} (h : SoundM n p F) (v x y a b : Nat) : viaM v F x y a b ≤ F a b := by
  rw [viaM, updM, via_eq h]
  split
  · rename_i hc; rw [hc.1, hc.2]; omega
  · exact Int.le_refl _
/-- Row and column of the place in between stay. -/
theorem via_row {n : Net} {p : Party} {F : Mat} (h : SoundM n p F) (v x y a : Nat) : viaM v F x y a v = F a v ∧ viaM v F x y v a = F v a := by
  have hv := h v v
  rw [viaM, via_eq h]
  simp only [updM]
  constructor
  · split
    · rename_i hc; obtain ⟨rfl, rfl⟩ := hc; omega
    · rfl
  · split
    · rename_i hc; obtain ⟨rfl, rfl⟩ := hc; omega
    · rfl
/-- What a round over the places a and b of two lists gives. -/
theorem inner_spec {n : Net} {p : Party} (v a : Nat) : ∀ (l : List Nat) (F : Mat), SoundM n p F → SoundM n p (l.foldl (fun F b => viaM v F a b) F) ∧
    (∀ x y, (l.foldl (fun F b => viaM v F a b) F) x y ≤ F x y) ∧ (∀ x, (l.foldl (fun F b => viaM v F a b) F) x v = F x v ∧ (l.foldl (fun F b => viaM v F a b) F) v x = F v x) ∧
    ∀ b ∈ l, (l.foldl (fun F b => viaM v F a b) F) a b ≤ F a v + F v b
  | [], F, h => ⟨h, fun _ _ => Int.le_refl _, fun _ => ⟨rfl, rfl⟩, fun b hb => by simp at hb⟩
  | b :: l, F, h => by
    obtain ⟨s1, s2, s3, s4⟩ := inner_spec v a l (viaM v F a b) (via_sound h v a b)
    have hr := via_row h v a b
    refine ⟨s1, fun x y => Int.le_trans (s2 x y) (via_le h v a b x y), fun x => ⟨(s3 x).1.trans (hr x).1, (s3 x).2.trans (hr x).2⟩, fun y hy => ?_⟩
    rcases List.mem_cons.1 hy with rfl | hy
    · refine Int.le_trans (s2 a y) ?_
      rw [viaM, updM, if_pos ⟨rfl, rfl⟩, via_eq h]
      omega
    · have := s4 y hy
      rw [(hr a).1, (hr y).2] at this
      exact this
theorem round_spec {n : Net} {p : Party} (m v : Nat) : ∀ (l : List Nat) (F : Mat), SoundM n p F → SoundM n p (l.foldl (stepA m v) F) ∧
    (∀ x y, (l.foldl (stepA m v) F) x y ≤ F x y) ∧ (∀ x, (l.foldl (stepA m v) F) x v = F x v ∧ (l.foldl (stepA m v) F) v x = F v x) ∧
    ∀ a ∈ l, ∀ b, b < m → (l.foldl (stepA m v) F) a b ≤ F a v + F v b
  | [], F, h => ⟨h, fun _ _ => Int.le_refl _, fun _ => ⟨rfl, rfl⟩, fun b hb => by simp at hb⟩
  | a :: l, F, h => by
    obtain ⟨t1, t2, t3, t4⟩ := inner_spec v a (List.range m) F h
    obtain ⟨s1, s2, s3, s4⟩ := round_spec m v l (stepA m v F a) t1
    refine ⟨s1, fun x y => Int.le_trans (s2 x y) (t2 x y), fun x => ⟨(s3 x).1.trans (t3 x).1, (s3 x).2.trans (t3 x).2⟩, fun x hx b hb => ?_⟩
    rcases List.mem_cons.1 hx with rfl | hx
    · exact Int.le_trans (s2 x b) (t4 b (List.mem_range.2 hb))
    · have := s4 x hx b hb
      have e1 : (stepA m v F a) x v = F x v := (t3 x).1
      have e2 : (stepA m v F a) v b = F v b := (t3 b).2
      rw [e1, e2] at this
      exact this
end Go.Ab
namespace Go.Ab
open Go.RowKit Go.Proofs
set_option maxHeartbeats 2000000
theorem chain_split {n : Net} {p : Party} {L : List Nat} {a b : Nat} {c : Int} (h : ChainW n p L a b c) {k : Nat} : k ∈ L → ∃ l1 l2 c1 c2, ChainW n p l1 a k c1 ∧ ChainW n p l2 k b c2 ∧ c1 + c2 = c ∧ l1.length + l2.length < L.length ∧ ∀ x, x ∈ l1 ∨ x ∈ l2 → x ∈ L := by
  induction h with
  | nil a => intro h; simp at h
  | one hw => intro h; simp at h
  | @app l1 l2 a v b c d h1 h2 ih1 ih2 =>
    intro hk
    rcases List.mem_append.1 hk with hk | hk
    · obtain ⟨m1, m2, e1, e2, g1, g2, g3, g4, g5⟩ := ih1 hk
      refine ⟨m1, m2 ++ v :: l2, e1, e2 + d, g1, .app g2 h2, by omega, by simp; omega, fun x hx => ?_⟩
      rcases hx with hx | hx
      · exact List.mem_append.2 (.inl (g5 x (.inl hx)))
      · rcases List.mem_append.1 hx with hx | hx
        · exact List.mem_append.2 (.inl (g5 x (.inr hx)))
        · exact List.mem_append.2 (.inr hx)
    · rcases List.mem_cons.1 hk with rfl | hk
      · exact ⟨l1, l2, c, d, h1, h2, rfl, by simp, fun x hx => by
          rcases hx with hx | hx
          · exact List.mem_append.2 (.inl hx)
          · exact List.mem_append.2 (.inr (List.mem_cons.2 (.inr hx)))⟩
      · obtain ⟨m1, m2, e1, e2, g1, g2, g3, g4, g5⟩ := ih2 hk
        refine ⟨l1 ++ v :: m1, m2, c + e1, e2, .app h1 g1, g2, by omega, by simp; omega, fun x hx => ?_⟩
        rcases hx with hx | hx
        · rcases List.mem_append.1 hx with hx | hx
          · exact List.mem_append.2 (.inl hx)
          · rcases List.mem_cons.1 hx with rfl | hx
            · exact List.mem_append.2 (.inr (by simp))
            · exact List.mem_append.2 (.inr (List.mem_cons.2 (.inr (g5 x (.inl hx)))))
        · exact List.mem_append.2 (.inr (List.mem_cons.2 (.inr (g5 x (.inr hx)))))
theorem chain_in {n : Net} {p : Party} (hg : n.Good) {L : List Nat} {a b : Nat} {c : Int} (h : ChainW n p L a b c) : a < n.places.toNat → b < n.places.toNat ∧ ∀ x ∈ L, x < n.places.toNat := by
  induction h with
  | nil a => exact fun ha => ⟨ha, fun x hx => by simp at hx⟩
  | @one w hw =>
    intro _
    obtain ⟨_, h2, _⟩ := z197 hw
    have := (hg.path w.2 (List.mem_of_getElem? h2)).to
    exact ⟨by omega, fun x hx => by simp at hx⟩
  | app h1 h2 ih1 ih2 =>
    intro ha
    obtain ⟨g1, g2⟩ := ih1 ha
    obtain ⟨k1, k2⟩ := ih2 g1
    refine ⟨k1, fun x hx => ?_⟩
    rcases List.mem_append.1 hx with hx | hx
    · exact g2 x hx
    · rcases List.mem_cons.1 hx with rfl | hx
      · exact g1
      · exact k2 x hx
/-- Over these places in between, no chain costs less. -/
def Least (n : Net) (p : Party) (k : Nat) (F : Mat) : Prop := ∀ (L : List Nat) (a b : Nat) (c : Int), ChainW n p L a b c → a < n.places.toNat → (∀ x ∈ L, x < k) → F a b ≤ c
theorem least_step {n : Net} {p : Party} (hg : n.Good) {v : Nat} {F : Mat} (hS : SoundM n p F) (hL : Least n p v F) (hv : v < n.places.toNat) : Least n p (v + 1) (stepV n.places.toNat F v) := by
  obtain ⟨_, h2, h3, h4⟩ := round_spec n.places.toNat v (List.range n.places.toNat) F hS
  have key : ∀ (k : Nat) (L : List Nat) (a b : Nat) (c : Int), L.length ≤ k → ChainW n p L a b c → a < n.places.toNat → (∀ x ∈ L, x < v + 1) → stepV n.places.toNat F v a b ≤ c := by
    intro k
    induction k with
    | zero =>
      intro L a b c hk hc ha hx
      have : L = [] := List.length_eq_zero_iff.1 (by omega)
      exact Int.le_trans (h2 a b) (hL L a b c hc ha (by rw [this]; intro x hx; simp at hx))
    | succ k ih =>
      intro L a b c hk hc ha hx
      by_cases hvL : v ∈ L
      · obtain ⟨l1, l2, c1, c2, g1, g2, g3, g4, g5⟩ := chain_split hc hvL
        have e1 := ih l1 a v c1 (by omega) g1 ha (fun x hh => hx x (g5 x (.inl hh)))
        have e2 := ih l2 v b c2 (by omega) g2 hv (fun x hh => hx x (g5 x (.inr hh)))
        have e3 := h4 a (List.mem_range.2 ha) b (chain_in hg hc ha).1
        have e4 : stepV n.places.toNat F v a v = F a v := (h3 a).1
        have e5 : stepV n.places.toNat F v v b = F v b := (h3 b).2
        have e6 : stepV n.places.toNat F v a b ≤ F a v + F v b := e3
        omega
      · exact Int.le_trans (h2 a b) (hL L a b c hc ha fun x hh => by
          have := hx x hh
          have : x ≠ v := fun e => hvL (e ▸ hh)
          omega)
  exact fun L a b c hc ha hx => key L.length L a b c (Nat.le_refl _) hc ha hx
theorem relax_le {n : Net} {p : Party} : ∀ (l : List (Nat × Path)) (F : Mat), (∀ x y, (l.foldl (relaxM p) F) x y ≤ F x y) ∧ ∀ w ∈ l, (l.foldl (relaxM p) F) w.2.frm.toNat w.2.to.toNat ≤ (spanW w.2 p).hi
  | [], F => ⟨fun _ _ => Int.le_refl _, fun w hw => by simp at hw⟩
  | w :: l, F => by
    obtain ⟨h1, h2⟩ := relax_le (n := n) l (relaxM p F w)
    have h3 : ∀ x y, relaxM p F w x y ≤ F x y := fun x y => by
      rw [relaxM, updM]
      split
      · rename_i hc; rw [hc.1, hc.2]; omega
      · exact Int.le_refl _
    refine ⟨fun x y => Int.le_trans (h1 x y) (h3 x y), fun u hu => ?_⟩
    rcases List.mem_cons.1 hu with rfl | hu
    · refine Int.le_trans (h1 _ _) ?_
      rw [relaxM, updM, if_pos ⟨rfl, rfl⟩]
      omega
    · exact h2 u hu
theorem relaxs_sound {n : Net} {p : Party} (hn : n.Good) (hp : p.Good) : ∀ (l : List (Nat × Path)) (F : Mat), (∀ w ∈ l, w ∈ canL n p) → SoundM n p F → SoundM n p (l.foldl (relaxM p) F)
  | [], F, _, h => h
  | w :: l, F, hl, h => by
    have hw := hl w (by simp)
    obtain ⟨_, h2, _⟩ := z197 hw
    have ho := (z995 (hn.path w.2 (List.mem_of_getElem? h2)) hp).1
    unfold okTime at ho
    exact relaxs_sound hn hp l _ (fun u hu => hl u (by simp [hu])) (relax_sound hw (by omega) h)
/-- **The ways between all places are the shortest ones.** -/
theorem all_spec {n : Net} {p : Party} (hn : n.Good) (hp : p.Good) : SoundM n p (allM n p) ∧ Least n p n.places.toNat (allM n p) := by
  rw [z1164 n p rfl]
  obtain ⟨B, hB⟩ : ∃ B, B = (canL n p).foldl (relaxM p) zeroM := ⟨_, rfl⟩
  have hS : SoundM n p B := hB ▸ relaxs_sound hn hp _ _ (fun w hw => hw) (zero_sound n p)
  have hL : Least n p 0 B := by
    intro L a b c hc ha hx
    have hLe : L = [] := by
      cases L with
      | nil => rfl
      | cons x L => exact absurd (hx x (by simp)) (Nat.not_lt_zero x)
    obtain ⟨r1, r2⟩ := relax_le (n := n) (p := p) (canL n p) zeroM
    rw [← hB] at r1 r2
    cases hc with
    | nil => have := r1 a a; rw [zeroM, if_pos rfl] at this; exact this
    | one hw => exact r2 _ hw
    | app h1 h2 => simp at hLe
  rw [← hB]
  have : ∀ k, k ≤ n.places.toNat → SoundM n p ((List.range k).foldl (stepV n.places.toNat) B) ∧ Least n p k ((List.range k).foldl (stepV n.places.toNat) B) := by
    intro k
    induction k with
    | zero => exact fun _ => ⟨hS, hL⟩
    | succ k ih =>
      intro hk
      obtain ⟨h1, h2⟩ := ih (by omega)
      rw [z341]
      exact ⟨(round_spec n.places.toNat k (List.range n.places.toNat) _ h1).1, least_step hn h1 h2 (by omega)⟩
  exact this _ (Nat.le_refl _)
end Go.Ab
namespace Go.Ab
open Go.RowKit Go.Proofs
set_option maxHeartbeats 2000000
def openP (y : Path) : Path := { y with opens := [⟨0, 2880⟩] }
def openN (n : Net) : Net := { n with paths := n.paths.map openP }
theorem openN_get (n : Net) (k : Nat) : (openN n).paths[k]? = (n.paths[k]?).map openP := by rw [openN, List.getElem?_map]
theorem openN_good {n : Net} (h : n.Good) : (openN n).Good := by
  refine ⟨h.places, by rw [openN, List.length_map]; exact h.paths, fun x hx => ?_⟩
  obtain ⟨y, hy, rfl⟩ := List.mem_map.1 hx
  have g := h.path y hy
  refine ⟨g.frm, g.to, g.ne, g.grade, g.time, g.snow, (show ([⟨0, 2880⟩] : List Span).length ≤ 6 by decide), fun s hs => ?_⟩
  have : s = ⟨0, 2880⟩ := by simpa [openP] using hs
  subst this
  decide
theorem openN_small {n : Net} (h : n.Small) : (openN n).Small := by
  refine ⟨by rw [openN, List.length_map]; exact h.paths, fun x hx => ?_⟩
  obtain ⟨y, hy, rfl⟩ := List.mem_map.1 hx
  show (1 : Nat) < 2 ^ 30
  exact Nat.one_lt_two_pow (by decide)
theorem enter_open {t : Int} (h0 : 0 ≤ t) (h : t ≤ 2880) : enterF [⟨0, 2880⟩] t = t := by
  simp only [enterF, List.foldl_cons, List.foldl_nil]
  rw [if_pos h]
  omega
theorem arrive_open {t d : Int} (h0 : 0 ≤ t) (h : t ≤ 2880) (hd : okTime d) : arriveF [⟨0, 2880⟩] t d = if t + d > 2880 then never else t + d := by
  rw [z703 h0 hd, enter_open h0 h]
theorem ways_open {n : Net} {p : Party} {w : Nat × Path} : w ∈ waysL (openN n) p (-1) ↔ ∃ y, (w.1, y) ∈ canL n p ∧ w.2 = openP y := by
  rw [z549, openN_get]
  constructor
  · rintro ⟨h1, h2, _⟩
    obtain ⟨y, hy, e⟩ := Option.map_eq_some_iff.1 h1
    refine ⟨y, z694 hy ?_ (List.getElem?_eq_some_iff.1 hy).1, e.symm⟩
    rw [← e] at h2
    exact h2
  · rintro ⟨y, hy, e⟩
    obtain ⟨_, h2, h3⟩ := z197 hy
    refine ⟨by rw [h2, e]; rfl, by rw [e]; exact h3, by omega⟩
theorem ways_can {n : Net} {p : Party} {w : Nat × Path} (h : w ∈ waysL n p (-1)) : w ∈ canL n p := by
  obtain ⟨h1, h2, _⟩ := z549.1 h
  exact z694 h1 h2 (List.getElem?_eq_some_iff.1 h1).1
abbrev hiD (p : Party) : Path → Int := fun x => spanHi (spanW x p)
theorem chain_reach {n : Net} {p : Party} (hn : n.Good) (hp : p.Good) {l : List Nat} {a b : Nat} {c : Int} (h : ChainW n p l a b c) :
    0 ≤ c ∧ ∀ frm start t, Reach (waysL (openN n) p (-1)) (hiD p) frm start (a : Int) t → 0 ≤ t → t + c ≤ 2880 → Reach (waysL (openN n) p (-1)) (hiD p) frm start (b : Int) (t + c) := by
  induction h with
  | nil a => exact ⟨Int.le_refl _, fun _ _ t h _ _ => by rw [Int.add_zero]; exact h⟩
  | @one w hw =>
    obtain ⟨_, h2, _⟩ := z197 hw
    have hg := hn.path w.2 (List.mem_of_getElem? h2)
    have ho := (z995 hg hp).1
    have ho' := ho
    unfold okTime at ho'
    refine ⟨by omega, fun frm start t hr h0 hle => ?_⟩
    have hm : (w.1, openP w.2) ∈ waysL (openN n) p (-1) := ways_open.2 ⟨w.2, hw, rfl⟩
    have ha : arriveF (openP w.2).opens t (hiD p (openP w.2)) = t + (spanW w.2 p).hi := by
      show arriveF [⟨0, 2880⟩] t (spanW w.2 p).hi = _
      rw [arrive_open h0 (by omega) ho, if_neg (by omega)]
    have hf : ((w.2.frm.toNat : Nat) : Int) = w.2.frm := Int.toNat_of_nonneg hg.frm.1
    have ht : ((w.2.to.toNat : Nat) : Int) = w.2.to := Int.toNat_of_nonneg hg.to.1
    rw [hf] at hr
    rw [ht]
    have := Reach.step (dur := hiD p) (w.1, openP w.2) hr hm rfl (by dsimp only; rw [ha]; exact hle)
    dsimp only at this
    rw [ha] at this
    exact this
  | app h1 h2 ih1 ih2 =>
    obtain ⟨c0, g1⟩ := ih1
    obtain ⟨d0, g2⟩ := ih2
    refine ⟨by omega, fun frm start t hr h0 hle => ?_⟩
    have := g2 frm start _ (g1 frm start t hr h0 (by omega)) (by omega) (by omega)
    rw [Int.add_assoc] at this
    exact this
theorem chain_snoc {n : Net} {p : Party} {l : List Nat} {a : Nat} {c : Int} {w : Nat × Path} (h : ChainW n p l a w.2.frm.toNat c) (hw : w ∈ canL n p) : ∃ l', ChainW n p l' a w.2.to.toNat (c + (spanW w.2 p).hi) := ⟨_, .app h (.one hw)⟩
/-- Whoever arrives, has gone some chain: he is not faster than it. -/
theorem reach_chain {n : Net} {p : Party} (hn : n.Good) (hp : p.Good) {frm start y t : Int} (hs : 0 ≤ start ∧ start ≤ 2880) (hf : 0 ≤ frm ∧ frm < n.places) (h : Reach (waysL n p (-1)) (hiD p) frm start y t) :
    ∃ l c, ChainW n p l frm.toNat y.toNat c ∧ start + c ≤ t := by
  have hok := (z117 hn hp (-1)).1
  induction h with
  | refl => exact ⟨_, _, .nil _, by omega⟩
  | @step y t w hr hm hwf hle ih =>
    obtain ⟨l, c, hc, hct⟩ := ih
    have hrg := Reach.range hok hs hf hr
    have hk := (hok w hm).2.2
    subst hwf
    obtain ⟨l', hl'⟩ := chain_snoc hc (ways_can hm)
    obtain ⟨e1, _, e3⟩ := arrive_enter (opens := w.2.opens) (t := t) (by omega) hk hle
    refine ⟨l', _, hl', ?_⟩
    have e1' : arriveF w.2.opens t (hiD p w.2) = enterF w.2.opens t + (spanW w.2 p).hi := e1
    rw [e1']
    omega
/-- With all paths open, he has gone it exactly. -/
theorem reach_chain_open {n : Net} {p : Party} (hn : n.Good) (hp : p.Good) {frm start y t : Int} (hs : 0 ≤ start ∧ start ≤ 2880) (hf : 0 ≤ frm ∧ frm < n.places) (h : Reach (waysL (openN n) p (-1)) (hiD p) frm start y t) :
    ∃ l c, ChainW n p l frm.toNat y.toNat c ∧ start + c = t := by
  have hok := (z117 (openN_good hn) hp (-1)).1
  induction h with
  | refl => exact ⟨_, _, .nil _, by omega⟩
  | @step y t w hr hm hwf hle ih =>
    obtain ⟨l, c, hc, hct⟩ := ih
    have hrg := Reach.range hok hs hf hr
    have hk := (hok w hm).2.2
    obtain ⟨z, hz, e⟩ := ways_open.1 hm
    subst hwf
    obtain ⟨i, w2⟩ := w
    dsimp only at e hz hk hle hc ⊢
    subst e
    obtain ⟨l', hl'⟩ := chain_snoc (w := (i, z)) hc hz
    refine ⟨l', _, hl', ?_⟩
    have ha : arriveF (openP z).opens t (hiD p (openP z)) = t + (spanW z p).hi := by
      have e1 : arriveF (openP z).opens t (hiD p (openP z)) = arriveF [⟨0, 2880⟩] t (spanW z p).hi := rfl
      have hk' : okTime (spanW z p).hi := hk
      have t0 : 0 ≤ t := by have := hrg.1; omega
      rw [e1] at hle ⊢
      rw [arrive_open t0 hrg.2.1 hk'] at hle ⊢
      split at hle
      · have : never = 1073741824 := rfl
        omega
      · rename_i hh; rw [if_neg hh]
    rw [ha]
    dsimp only
    omega
/-- **The theorem of the open net.** -/
theorem open_law {n : Net} {p : Party} (hn : n.Good) (hp : p.Good) {frm to start : Int} (hf : 0 ≤ frm ∧ frm < n.places) (ht : 0 ≤ to ∧ to < n.places) (hs : 0 ≤ start ∧ start ≤ 2880) :
    told1 (getI (arrivalsL (openN n) p spanHi frm start (-1)) to) = (if allM n p frm.toNat to.toNat < farW ∧ start + allM n p frm.toNat to.toNat ≤ 2880 then start + allM n p frm.toNat to.toNat else -1) ∧
    (told1 (getI (arrivalsL n p spanHi frm start (-1)) to) < 0 ∨ (allM n p frm.toNat to.toNat < farW ∧ start + allM n p frm.toNat to.toNat ≤ told1 (getI (arrivalsL n p spanHi frm start (-1)) to))) := by
  have hv : never = 1073741824 := rfl
  have hfw : farW = 1099511627776 := rfl
  obtain ⟨s1, s2⟩ := all_spec hn hp
  obtain ⟨W, hW⟩ : ∃ W, W = allM n p frm.toNat to.toNat := ⟨_, rfl⟩
  obtain ⟨w1, w2, w3⟩ := s1 frm.toNat to.toNat
  have hfr : frm.toNat < n.places.toNat := by omega
  have hle : ∀ l c, ChainW n p l frm.toNat to.toNat c → W ≤ c := fun l c hc => hW ▸ s2 l _ _ c hc hfr (chain_in hn hc hfr).2
  rw [← hW] at w1 w2 w3 ⊢
  obtain ⟨o1, o2⟩ := z541 (q := spanHi) (but := -1) (z117 (openN_good hn) hp (-1)).1 (n := openN n) hf hs
  obtain ⟨a1, a2⟩ := z541 (q := spanHi) (but := -1) (z117 hn hp (-1)).1 hf hs
  constructor
  · obtain ⟨S, hS⟩ : ∃ S, S = getI (arrivalsL (openN n) p spanHi frm start (-1)) to := ⟨_, rfl⟩
    have o1 := o1 to ht.1 ht.2
    rw [← hS] at o1 ⊢
    by_cases hc : W < farW ∧ start + W ≤ 2880
    · rw [if_pos hc]
      obtain ⟨l, hl⟩ := w3 hc.1
      have hr := (chain_reach hn hp hl).2 frm start start (by rw [Int.toNat_of_nonneg hf.1]; exact .refl) hs.1 hc.2
      rw [Int.toNat_of_nonneg ht.1] at hr
      have h1 : S ≤ start + W := by rw [hS]; exact o2 _ _ hr
      rcases o1 with h | ⟨h2, h3, h4⟩
      · omega
      · obtain ⟨l', c, hc', hct⟩ := reach_chain_open hn hp hs hf h4
        have := hle l' c hc'
        rw [told1, if_neg (by omega)]
        omega
    · rw [if_neg hc]
      rcases o1 with h | ⟨h2, h3, h4⟩
      · rw [told1, if_pos h]
      · obtain ⟨l', c, hc', hct⟩ := reach_chain_open hn hp hs hf h4
        have := hle l' c hc'
        exact absurd ⟨by omega, by omega⟩ hc
  · obtain ⟨S, hS⟩ : ∃ S, S = getI (arrivalsL n p spanHi frm start (-1)) to := ⟨_, rfl⟩
    have a1 := a1 to ht.1 ht.2
    rw [← hS] at a1 ⊢
    rcases a1 with h | ⟨h2, h3, h4⟩
    · left; rw [told1, if_pos h]; decide
    · right
      obtain ⟨l', c, hc', hct⟩ := reach_chain hn hp hs hf h4
      have := hle l' c hc'
      rw [told1, if_neg (by omega)]
      omega
end Go.Ab
namespace Go.Ab
open Go.RowKit Go.Proofs
set_option maxHeartbeats 8000000
set_option maxRecDepth 20000
attribute [local irreducible] WalkL Walk
structure Errand where
  p : Party
  frm : Int
  to : Int
  start : Int
def Errand.row (x : Errand) : List DV := [.i x.p.grade, .i x.p.load, .i x.p.pace.lo, .i x.p.pace.hi, .i x.frm, .i x.to, .i x.start]
def missZ : Missed := ⟨⟨0, 0, ⟨0, 0⟩⟩, 0, 0, 0, 0, []⟩
def openT (n : Net) (i : Nat) : List Path := (n.paths.take i).map openP ++ n.paths.drop i
theorem openT_len {n : Net} {i : Nat} (h : i ≤ n.paths.length) : (openT n i).length = n.paths.length := by simp [openT]; omega
theorem openT_get {n : Net} {i : Nat} {y : Path} (h : n.paths[i]? = some y) : (openT n i)[i]? = some y := by
  have hi := (List.getElem?_eq_some_iff.1 h).1
  have hl : ((n.paths.take i).map openP).length = i := by simp; omega
  rw [openT, List.getElem?_append_right (by omega), hl, Nat.sub_self, List.getElem?_drop]
  exact h
theorem openT_set {n : Net} {i : Nat} {y : Path} (h : n.paths[i]? = some y) : ((openT n i).map Path.row).set i [.i y.frm, .i y.to, .i y.grade, .i y.time.lo, .i y.time.hi, .i y.snow.lo, .i y.snow.hi, .sl [[.i 0, .i 2880]]] = (openT n (i + 1)).map Path.row := by
  have hi := (List.getElem?_eq_some_iff.1 h).1
  have hl : (((n.paths.take i).map openP).map Path.row).length = i := by simp; omega
  rw [openT, openT, List.map_append, List.set_append_right _ _ (by omega), hl, Nat.sub_self, z69 h, List.take_add_one, h, List.map_append, List.map_append]
  simp [openP, Path.row, Span.row]
theorem openT_zero (n : Net) : openT n 0 = n.paths := by simp [openT]
theorem openT_all (n : Net) : openT n n.paths.length = (openN n).paths := by simp [openT, openN]
theorem f4' (n : Net) (x : Errand) (hs : n.Small) : Fn Try.prog 4 [.agg n.cells, .agg x.row] (.bool true) := by
  have h5 := zf5 n missZ hs (by decide)
  have h14 := zf14 n x.p hs
  have h15 := zf15 x.start
  have h16 : FnG Try.prog 16 [] [] ([DV.agg n.cells].map AV.d) (.agg [.d (.i n.places), .own 0]) [.arr 56 8 (n.paths.map Path.row)] := zf16m n hs
  have h17 := zf17 n x.p x.frm x.to hs
  have h18 := zf18 n x.p x.frm x.start hs
  have h18o := zf18 (openN n) x.p x.frm x.start (openN_small hs)
  rw [Net.cells] at h5 h14 h17 h18 h18o
  rw [Missed.row, missZ] at h5
  rw [Party.cells] at h14 h17 h18 h18o
  refine z12 173 Try.call4 Try.func4 rfl (by decide) fun J => ?_
  simp (maxSteps := 4000000) only [go_sem, St.start, Try.ntmps4, Try.results4, Net.cells, Errand.row]
  cases hf : farX n missZ
  · rw [← missZ, hf] at h5
    by_cases hk : checkPartyF n x.p = 0
    · obtain ⟨hn, hp⟩ := z205.1 hk
      rw [hk] at h14
      have hpl := hn.places
      have h7 := fun y => zf7 n y (by omega)
      rw [Net.cells] at h7
      cases hb1 : withinB x.frm 0 (n.places - 1)
      · have h7a := h7 x.frm
        rw [hb1] at h7a
        repeat (first | refine z33 ?_ | refine z52 ?_ | refine z49 ?_ | (refine z3 fun K hK => ?_; simp (maxSteps := 4000000) only [go_sem]; (repeat (first | (refine ⟨_, .lent (hf := h5) (hd := rfl) (hr := rfl), ?_⟩; simp (maxSteps := 4000000) only [go_sem]) | (refine ⟨_, .lent (hf := h14) (hd := rfl) (hr := rfl), ?_⟩; simp (maxSteps := 4000000) only [go_sem]) | (refine ⟨_, .lent (hf := h7a) (hd := rfl) (hr := rfl), ?_⟩; simp (maxSteps := 4000000) only [go_sem]) | (refine ⟨_, .given (hf := h5) (hd := rfl) (ha := rfl), ?_⟩; simp (maxSteps := 4000000) only [go_sem]) | (refine ⟨_, .given (hf := h14) (hd := rfl) (ha := rfl), ?_⟩; simp (maxSteps := 4000000) only [go_sem]) | (refine ⟨_, .given (hf := h7a) (hd := rfl) (ha := rfl), ?_⟩; simp (maxSteps := 4000000) only [go_sem]))); refine hK _ ?_; clear hK K) | refine z8 ?_ | refine z167 ?_ | refine z85 ?_ | refine z59 ?_ | refine z105 rfl ?_ | refine z95 ?_ | refine z82 ?_ | refine z119 ?_ | refine z87 ?_ | refine z5 ?_)
        refine z10 rfl ?_
        repeat (first | refine z33 ?_ | refine z52 ?_ | refine z49 ?_ | (refine z3 fun K hK => ?_; simp (maxSteps := 4000000) only [go_sem]; (repeat (first | (refine ⟨_, .lent (hf := zf8) (hd := rfl) (hr := rfl), ?_⟩; simp (maxSteps := 4000000) only [go_sem]) | (refine ⟨_, .given (hf := zf8) (hd := rfl) (ha := rfl), ?_⟩; simp (maxSteps := 4000000) only [go_sem]))); refine hK _ ?_; clear hK K) | refine z8 ?_ | refine z167 ?_ | refine z85 ?_ | refine z59 ?_ | refine z105 rfl ?_ | refine z95 ?_ | refine z82 ?_ | refine z119 ?_ | refine z87 ?_ | refine z5 ?_)
        simp (maxSteps := 4000000) only [go_sem]
      · have h7a := h7 x.frm
        rw [hb1] at h7a
        cases hb2 : withinB x.to 0 (n.places - 1)
        · have h7b := h7 x.to
          rw [hb2] at h7b
          repeat (first | refine z33 ?_ | refine z52 ?_ | refine z49 ?_ | (refine z3 fun K hK => ?_; simp (maxSteps := 4000000) only [go_sem]; (repeat (first | (refine ⟨_, .lent (hf := h5) (hd := rfl) (hr := rfl), ?_⟩; simp (maxSteps := 4000000) only [go_sem]) | (refine ⟨_, .lent (hf := h14) (hd := rfl) (hr := rfl), ?_⟩; simp (maxSteps := 4000000) only [go_sem]) | (refine ⟨_, .lent (hf := h7a) (hd := rfl) (hr := rfl), ?_⟩; simp (maxSteps := 4000000) only [go_sem]) | (refine ⟨_, .lent (hf := h7b) (hd := rfl) (hr := rfl), ?_⟩; simp (maxSteps := 4000000) only [go_sem]) | (refine ⟨_, .given (hf := h5) (hd := rfl) (ha := rfl), ?_⟩; simp (maxSteps := 4000000) only [go_sem]) | (refine ⟨_, .given (hf := h14) (hd := rfl) (ha := rfl), ?_⟩; simp (maxSteps := 4000000) only [go_sem]) | (refine ⟨_, .given (hf := h7a) (hd := rfl) (ha := rfl), ?_⟩; simp (maxSteps := 4000000) only [go_sem]) | (refine ⟨_, .given (hf := h7b) (hd := rfl) (ha := rfl), ?_⟩; simp (maxSteps := 4000000) only [go_sem]))); refine hK _ ?_; clear hK K) | refine z8 ?_ | refine z167 ?_ | refine z85 ?_ | refine z59 ?_ | refine z105 rfl ?_ | refine z95 ?_ | refine z82 ?_ | refine z119 ?_ | refine z87 ?_ | refine z5 ?_)
          refine z10 rfl ?_
          repeat (first | refine z33 ?_ | refine z52 ?_ | refine z49 ?_ | (refine z3 fun K hK => ?_; simp (maxSteps := 4000000) only [go_sem]; (repeat (first | (refine ⟨_, .lent (hf := zf8) (hd := rfl) (hr := rfl), ?_⟩; simp (maxSteps := 4000000) only [go_sem]) | (refine ⟨_, .given (hf := zf8) (hd := rfl) (ha := rfl), ?_⟩; simp (maxSteps := 4000000) only [go_sem]))); refine hK _ ?_; clear hK K) | refine z8 ?_ | refine z167 ?_ | refine z85 ?_ | refine z59 ?_ | refine z105 rfl ?_ | refine z95 ?_ | refine z82 ?_ | refine z119 ?_ | refine z87 ?_ | refine z5 ?_)
          simp (maxSteps := 4000000) only [go_sem]
        · have h7b := h7 x.to
          rw [hb2] at h7b
          cases hb3 : withinB x.start 0 2880
          · rw [hb3] at h15
            repeat (first | refine z33 ?_ | refine z52 ?_ | refine z49 ?_ | (refine z3 fun K hK => ?_; simp (maxSteps := 4000000) only [go_sem]; (repeat (first | (refine ⟨_, .lent (hf := h5) (hd := rfl) (hr := rfl), ?_⟩; simp (maxSteps := 4000000) only [go_sem]) | (refine ⟨_, .lent (hf := h14) (hd := rfl) (hr := rfl), ?_⟩; simp (maxSteps := 4000000) only [go_sem]) | (refine ⟨_, .lent (hf := h7a) (hd := rfl) (hr := rfl), ?_⟩; simp (maxSteps := 4000000) only [go_sem]) | (refine ⟨_, .lent (hf := h7b) (hd := rfl) (hr := rfl), ?_⟩; simp (maxSteps := 4000000) only [go_sem]) | (refine ⟨_, .lent (hf := h15) (hd := rfl) (hr := rfl), ?_⟩; simp (maxSteps := 4000000) only [go_sem]) | (refine ⟨_, .given (hf := h5) (hd := rfl) (ha := rfl), ?_⟩; simp (maxSteps := 4000000) only [go_sem]) | (refine ⟨_, .given (hf := h14) (hd := rfl) (ha := rfl), ?_⟩; simp (maxSteps := 4000000) only [go_sem]) | (refine ⟨_, .given (hf := h7a) (hd := rfl) (ha := rfl), ?_⟩; simp (maxSteps := 4000000) only [go_sem]) | (refine ⟨_, .given (hf := h7b) (hd := rfl) (ha := rfl), ?_⟩; simp (maxSteps := 4000000) only [go_sem]) | (refine ⟨_, .given (hf := h15) (hd := rfl) (ha := rfl), ?_⟩; simp (maxSteps := 4000000) only [go_sem]))); refine hK _ ?_; clear hK K) | refine z8 ?_ | refine z167 ?_ | refine z85 ?_ | refine z59 ?_ | refine z105 rfl ?_ | refine z95 ?_ | refine z82 ?_ | refine z119 ?_ | refine z87 ?_ | refine z5 ?_)
            refine z10 rfl ?_
            repeat (first | refine z33 ?_ | refine z52 ?_ | refine z49 ?_ | (refine z3 fun K hK => ?_; simp (maxSteps := 4000000) only [go_sem]; (repeat (first | (refine ⟨_, .lent (hf := zf8) (hd := rfl) (hr := rfl), ?_⟩; simp (maxSteps := 4000000) only [go_sem]) | (refine ⟨_, .given (hf := zf8) (hd := rfl) (ha := rfl), ?_⟩; simp (maxSteps := 4000000) only [go_sem]))); refine hK _ ?_; clear hK K) | refine z8 ?_ | refine z167 ?_ | refine z85 ?_ | refine z59 ?_ | refine z105 rfl ?_ | refine z95 ?_ | refine z82 ?_ | refine z119 ?_ | refine z87 ?_ | refine z5 ?_)
            simp (maxSteps := 4000000) only [go_sem]
          · rw [hb3] at h15
            have hfr : 0 ≤ x.frm ∧ x.frm < n.places := by have := z27.1 hb1; omega
            have hto : 0 ≤ x.to ∧ x.to < n.places := by have := z27.1 hb2; omega
            have hst := z27.1 hb3
            repeat (first | refine z33 ?_ | refine z52 ?_ | refine z49 ?_ | (refine z3 fun K hK => ?_; simp (maxSteps := 4000000) only [go_sem]; (repeat (first | (refine ⟨_, .lent (hf := h5) (hd := rfl) (hr := rfl), ?_⟩; simp (maxSteps := 4000000) only [go_sem]) | (refine ⟨_, .lent (hf := h14) (hd := rfl) (hr := rfl), ?_⟩; simp (maxSteps := 4000000) only [go_sem]) | (refine ⟨_, .lent (hf := h7a) (hd := rfl) (hr := rfl), ?_⟩; simp (maxSteps := 4000000) only [go_sem]) | (refine ⟨_, .lent (hf := h7b) (hd := rfl) (hr := rfl), ?_⟩; simp (maxSteps := 4000000) only [go_sem]) | (refine ⟨_, .lent (hf := h15) (hd := rfl) (hr := rfl), ?_⟩; simp (maxSteps := 4000000) only [go_sem]) | (refine ⟨_, .given (hf := h5) (hd := rfl) (ha := rfl), ?_⟩; simp (maxSteps := 4000000) only [go_sem]) | (refine ⟨_, .given (hf := h14) (hd := rfl) (ha := rfl), ?_⟩; simp (maxSteps := 4000000) only [go_sem]) | (refine ⟨_, .given (hf := h7a) (hd := rfl) (ha := rfl), ?_⟩; simp (maxSteps := 4000000) only [go_sem]) | (refine ⟨_, .given (hf := h7b) (hd := rfl) (ha := rfl), ?_⟩; simp (maxSteps := 4000000) only [go_sem]) | (refine ⟨_, .given (hf := h15) (hd := rfl) (ha := rfl), ?_⟩; simp (maxSteps := 4000000) only [go_sem]))); refine hK _ ?_; clear hK K) | refine z8 ?_ | refine z167 ?_ | refine z85 ?_ | refine z59 ?_ | refine z105 rfl ?_ | refine z95 ?_ | refine z82 ?_ | refine z119 ?_ | refine z87 ?_ | refine z5 ?_)
            refine z7 rfl ?_
            repeat (first | refine z33 ?_ | refine z52 ?_ | refine z49 ?_ | (refine z3 fun K hK => ?_; simp (maxSteps := 4000000) only [go_sem]; refine hK _ ?_; clear hK K) | refine z8 ?_ | refine z167 ?_ | refine z85 ?_ | refine z59 ?_ | refine z105 rfl ?_ | refine z95 ?_ | refine z82 ?_ | refine z119 ?_ | refine z87 ?_ | refine z5 ?_)
            refine z3 fun K hK => ?_
            simp (maxSteps := 4000000) only [go_sem]
            refine ⟨_, .made (news := [48]) (hf := h16) (hd := rfl) (hn := by decide) (hl := rfl) (hnew := rfl) (hx := rfl), ?_⟩
            simp (maxSteps := 4000000) only [go_sem, List.map_cons, List.map_nil]
            refine hK _ ?_
            clear hK K
            repeat (first | refine z33 ?_ | refine z52 ?_ | refine z49 ?_ | (refine z3 fun K hK => ?_; simp (maxSteps := 4000000) only [go_sem]; refine hK _ ?_; clear hK K) | refine z8 ?_ | refine z167 ?_ | refine z85 ?_ | refine z59 ?_ | refine z105 rfl ?_ | refine z95 ?_ | refine z82 ?_ | refine z119 ?_ | refine z87 ?_ | refine z5 ?_)
            refine z18 (fun (i : Nat) => [(6, .d (.i i))]) (fun i => [(48, some (.arr 56 8 ((openT n i).map Path.row)))]) (fun i => i ≤ n.paths.length) (fun i => n.paths.length - i) 0 ?_ (Nat.zero_le _) ?_
            · simp (maxSteps := 4000000) only [go_sem, openT_zero]
              refine z32 [] ?_ ?_ rfl rfl <;> simp [lessT, lessM, lessB, AV.less]
            · intro i hi
              have hol : ((openT n i).map Path.row).length = n.paths.length := by rw [List.length_map, openT_len hi]
              have hpt := hs.paths
              simp (maxSteps := 4000000) only [go_sem]
              repeat (first | refine z33 ?_ | refine z52 ?_ | refine z49 ?_ | (refine z3 fun K hK => ?_; simp (maxSteps := 4000000) only [go_sem, hol]; refine hK _ ?_; clear hK K) | refine z8 ?_ | refine z167 ?_ | refine z85 ?_ | refine z59 ?_ | refine z105 rfl ?_ | refine z95 ?_ | refine z82 ?_ | refine z119 ?_ | refine z87 ?_ | refine z5 ?_)
              refine z4 rfl (fun hb => ?_) (fun hb => ?_)
              · have hlt : i < n.paths.length := by simpa using hb
                have hw : IntKind.i64.wrap ((i : Int) + 1) = ((i + 1 : Nat) : Int) := by rw [z9 (by omega)]; simp
                obtain ⟨y, hy⟩ : ∃ y, n.paths[i]? = some y := ⟨_, List.getElem?_eq_getElem hlt⟩
                have gy : ((openT n i).map Path.row)[i]? = some y.row := by rw [List.getElem?_map, openT_get hy]; rfl
                have hset := openT_set hy
                rw [Path.row] at gy
                repeat (first | refine z33 ?_ | refine z52 ?_ | refine z49 ?_ | (refine z3 fun K hK => ?_; simp (maxSteps := 4000000) only [go_sem, gy, hol, hlt, hset, hw]; refine hK _ ?_; clear hK K) | refine z8 ?_ | refine z167 ?_ | refine z85 ?_ | refine z59 ?_ | refine z105 rfl ?_ | refine z95 ?_ | refine z82 ?_ | refine z119 ?_ | refine z87 ?_ | refine z5 ?_)
                refine ⟨rfl, i + 1, ?_, hlt, by omega⟩
                refine z32 [] ?_ ?_ rfl rfl <;> simp [lessT, lessM, lessB, AV.less]
              · have he : i = n.paths.length := by (have : ¬ i < n.paths.length := by simpa using hb); omega
                subst he
                rw [openT_all]
                have hop : openF n x.p [x.frm] [x.start] = 0 := z223.2 ⟨hn, hp, by simpa using hfr, by simpa using hst⟩
                have hop2 : openF (openN n) x.p [x.frm] [x.start] = 0 := z223.2 ⟨openN_good hn, hp, (z223.1 hop).place, (z223.1 hop).minute⟩
                obtain ⟨law1, law2⟩ := open_law hn hp hfr hto hst
                have e18 : arriveL n x.p x.frm x.start = ((arrivalsL n x.p spanHi x.frm x.start (-1)).map told1, (arrivalsL n x.p spanLo x.frm x.start (-1)).map told1, 0) := by rw [arriveL, if_pos hop]
                have e18o : arriveL (openN n) x.p x.frm x.start = ((arrivalsL (openN n) x.p spanHi x.frm x.start (-1)).map told1, (arrivalsL (openN n) x.p spanLo x.frm x.start (-1)).map told1, 0) := by rw [arriveL, if_pos hop2]
                rw [e18] at h18
                rw [e18o, show (openN n).places = n.places from rfl] at h18o
                obtain ⟨A, hA⟩ : ∃ A, A = arrivalsL n x.p spanHi x.frm x.start (-1) := ⟨_, rfl⟩
                obtain ⟨O, hO⟩ : ∃ A, A = arrivalsL (openN n) x.p spanHi x.frm x.start (-1) := ⟨_, rfl⟩
                have hAl : A.length = n.places.toNat := by rw [hA, z184]
                have hOl : O.length = n.places.toNat := by rw [hO, z184]; rfl
                rw [← hA] at h18 law2
                rw [← hO] at h18o law1
                have ga : (intRows (A.map told1))[x.to.toNat]? = some [.i (told1 (getI A x.to))] := by
                  rw [z36 hto.1 (by simp; omega), map_getI _ _ _ (by omega)]
                have go : (intRows (O.map told1))[x.to.toNat]? = some [.i (told1 (getI O x.to))] := by
                  rw [z36 hto.1 (by simp; omega), map_getI _ _ _ (by omega)]
                have hla : ((A.length : Int) != n.places) = false := by simp; omega
                have hlo : ((O.length : Int) != n.places) = false := by simp; omega
                obtain ⟨W, hW⟩ : ∃ W, W = allM n x.p x.frm.toNat x.to.toNat := ⟨_, rfl⟩
                have hbw : badWay n x.frm x.to = false := by rw [badWay, hb1, hb2]; rfl
                have hwf : wayF n x.p x.frm x.to = if W < farW then (W, 0) else (0, 3) := by rw [wayF, if_neg (by rw [hk]; simp), hbw, if_neg (by simp), ← hW]
                rw [← hW] at law1 law2
                obtain ⟨s, hs'⟩ : ∃ s, s = told1 (getI O x.to) := ⟨_, rfl⟩
                obtain ⟨t, ht'⟩ : ∃ s, s = told1 (getI A x.to) := ⟨_, rfl⟩
                rw [← hs'] at law1 go
                rw [← ht'] at law2 ga
                have hW0 : 0 ≤ W := by rw [hW]; exact ((all_spec hn hp).1 _ _).1
                have hfw : farW = 1099511627776 := rfl
                by_cases hc : W < farW
                · rw [if_pos hc] at hwf
                  rw [hwf] at h17
                  have hww : IntKind.i64.wrap (x.start + W) = x.start + W := z9 (by omega)
                  repeat (first | refine z33 ?_ | refine z52 ?_ | refine z49 ?_ | (refine z3 fun K hK => ?_; simp (maxSteps := 4000000) only [go_sem]; (repeat (first | (refine ⟨_, .lent (hf := h17) (hd := rfl) (hr := rfl), ?_⟩; simp (maxSteps := 4000000) only [go_sem]) | (refine ⟨_, .lent (hf := h18o) (hd := rfl) (hr := rfl), ?_⟩; simp (maxSteps := 4000000) only [go_sem]) | (refine ⟨_, .lent (hf := h18) (hd := rfl) (hr := rfl), ?_⟩; simp (maxSteps := 4000000) only [go_sem]) | (refine ⟨_, .given (hf := h17) (hd := rfl) (ha := rfl), ?_⟩; simp (maxSteps := 4000000) only [go_sem]) | (refine ⟨_, .given (hf := h18o) (hd := rfl) (ha := rfl), ?_⟩; simp (maxSteps := 4000000) only [go_sem]) | (refine ⟨_, .given (hf := h18) (hd := rfl) (ha := rfl), ?_⟩; simp (maxSteps := 4000000) only [go_sem]))); refine hK _ ?_; clear hK K) | refine z8 ?_ | refine z167 ?_ | refine z85 ?_ | refine z59 ?_ | refine z105 rfl ?_ | refine z95 ?_ | refine z82 ?_ | refine z119 ?_ | refine z87 ?_ | refine z5 ?_)
                  repeat (first | refine z33 ?_ | refine z52 ?_ | refine z49 ?_ | (refine z3 fun K hK => ?_; simp (maxSteps := 4000000) only [go_sem, z16, List.length_map, hla, hlo]; refine hK _ ?_; clear hK K) | refine z8 ?_ | refine z167 ?_ | refine z85 ?_ | refine z59 ?_ | refine z105 rfl ?_ | refine z95 ?_ | refine z82 ?_ | refine z119 ?_ | refine z87 ?_ | refine z5 ?_)
                  refine z7 rfl ?_
                  by_cases hd : x.start + W ≤ 2880
                  · have b1 : decide (x.start + W ≤ 2880) = true := decide_eq_true hd
                    rw [if_pos ⟨hc, hd⟩] at law1
                    have b2 : (s == x.start + W) = true := by simpa using law1
                    repeat (first | refine z33 ?_ | refine z52 ?_ | refine z49 ?_ | (refine z3 fun K hK => ?_; simp (maxSteps := 4000000) only [go_sem, b1, hww]; refine hK _ ?_; clear hK K) | refine z8 ?_ | refine z167 ?_ | refine z85 ?_ | refine z59 ?_ | refine z105 rfl ?_ | refine z95 ?_ | refine z82 ?_ | refine z119 ?_ | refine z87 ?_ | refine z5 ?_)
                    refine z10 rfl ?_
                    repeat (first | refine z33 ?_ | refine z52 ?_ | refine z49 ?_ | (refine z3 fun K hK => ?_; simp (maxSteps := 4000000) only [go_sem, hww]; refine hK _ ?_; clear hK K) | refine z8 ?_ | refine z167 ?_ | refine z85 ?_ | refine z59 ?_ | refine z105 rfl ?_ | refine z95 ?_ | refine z82 ?_ | refine z119 ?_ | refine z87 ?_ | refine z5 ?_)
                    by_cases ht0 : t < 0
                    · have b3 : decide (t < 0) = true := decide_eq_true ht0
                      refine z6 (by kernel_rfl) (by kernel_rfl) fun K hK => ?_
                      simp (maxSteps := 4000000) only [go_sem, go, ga, hto.1, b2, b3, hww]
                      refine ⟨_, .fn (hf := zf8) (hd := rfl) (hr := .inl rfl), ?_⟩
                      simp (maxSteps := 4000000) only [go_sem]
                      refine ⟨by kernel_rfl, hK _ ?_⟩
                      clear hK K
                      repeat (first | refine z33 ?_ | refine z52 ?_ | refine z49 ?_ | (refine z3 fun K hK => ?_; simp (maxSteps := 4000000) only [go_sem]; refine hK _ ?_; clear hK K) | refine z8 ?_ | refine z167 ?_ | refine z85 ?_ | refine z59 ?_ | refine z105 rfl ?_ | refine z95 ?_ | refine z82 ?_ | refine z119 ?_ | refine z87 ?_ | refine z5 ?_)
                      simp (maxSteps := 4000000) only [go_sem]
                    · have b3 : decide (t < 0) = false := decide_eq_false ht0
                      have b4 : decide (t ≥ x.start + W) = true := decide_eq_true (by rcases law2 with h | h <;> omega)
                      refine z6 (by kernel_rfl) (by kernel_rfl) fun K hK => ?_
                      simp (maxSteps := 4000000) only [go_sem, go, ga, hto.1, b2, b3, b4, hww]
                      refine ⟨_, .fn (hf := zf8) (hd := rfl) (hr := .inl rfl), ?_⟩
                      simp (maxSteps := 4000000) only [go_sem]
                      refine ⟨by kernel_rfl, hK _ ?_⟩
                      clear hK K
                      repeat (first | refine z33 ?_ | refine z52 ?_ | refine z49 ?_ | (refine z3 fun K hK => ?_; simp (maxSteps := 4000000) only [go_sem]; refine hK _ ?_; clear hK K) | refine z8 ?_ | refine z167 ?_ | refine z85 ?_ | refine z59 ?_ | refine z105 rfl ?_ | refine z95 ?_ | refine z82 ?_ | refine z119 ?_ | refine z87 ?_ | refine z5 ?_)
                      simp (maxSteps := 4000000) only [go_sem]
                  · have b1 : decide (x.start + W ≤ 2880) = false := decide_eq_false hd
                    rw [if_neg (fun h => hd h.2)] at law1
                    have b2 : (s == -1) = true := by simpa using law1
                    repeat (first | refine z33 ?_ | refine z52 ?_ | refine z49 ?_ | (refine z3 fun K hK => ?_; simp (maxSteps := 4000000) only [go_sem, b1, hww]; refine hK _ ?_; clear hK K) | refine z8 ?_ | refine z167 ?_ | refine z85 ?_ | refine z59 ?_ | refine z105 rfl ?_ | refine z95 ?_ | refine z82 ?_ | refine z119 ?_ | refine z87 ?_ | refine z5 ?_)
                    refine z7 rfl ?_
                    refine z52 ?_
                    repeat (first | refine z33 ?_ | refine z52 ?_ | refine z49 ?_ | (refine z3 fun K hK => ?_; simp (maxSteps := 4000000) only [go_sem]; refine hK _ ?_; clear hK K) | refine z8 ?_ | refine z167 ?_ | refine z85 ?_ | refine z59 ?_ | refine z105 rfl ?_ | refine z95 ?_ | refine z82 ?_ | refine z119 ?_ | refine z87 ?_ | refine z5 ?_)
                    by_cases ht0 : t < 0
                    · have b3 : decide (t < 0) = true := decide_eq_true ht0
                      refine z6 (by kernel_rfl) (by kernel_rfl) fun K hK => ?_
                      simp (maxSteps := 4000000) only [go_sem, go, ga, hto.1, b2, b3, hww]
                      refine ⟨_, .fn (hf := zf8) (hd := rfl) (hr := .inl rfl), ?_⟩
                      simp (maxSteps := 4000000) only [go_sem]
                      refine ⟨by kernel_rfl, hK _ ?_⟩
                      clear hK K
                      repeat (first | refine z33 ?_ | refine z52 ?_ | refine z49 ?_ | (refine z3 fun K hK => ?_; simp (maxSteps := 4000000) only [go_sem]; refine hK _ ?_; clear hK K) | refine z8 ?_ | refine z167 ?_ | refine z85 ?_ | refine z59 ?_ | refine z105 rfl ?_ | refine z95 ?_ | refine z82 ?_ | refine z119 ?_ | refine z87 ?_ | refine z5 ?_)
                      simp (maxSteps := 4000000) only [go_sem]
                    · have b3 : decide (t < 0) = false := decide_eq_false ht0
                      have b4 : decide (t ≥ x.start + W) = true := decide_eq_true (by rcases law2 with h | h <;> omega)
                      refine z6 (by kernel_rfl) (by kernel_rfl) fun K hK => ?_
                      simp (maxSteps := 4000000) only [go_sem, go, ga, hto.1, b2, b3, b4, hww]
                      refine ⟨_, .fn (hf := zf8) (hd := rfl) (hr := .inl rfl), ?_⟩
                      simp (maxSteps := 4000000) only [go_sem]
                      refine ⟨by kernel_rfl, hK _ ?_⟩
                      clear hK K
                      repeat (first | refine z33 ?_ | refine z52 ?_ | refine z49 ?_ | (refine z3 fun K hK => ?_; simp (maxSteps := 4000000) only [go_sem]; refine hK _ ?_; clear hK K) | refine z8 ?_ | refine z167 ?_ | refine z85 ?_ | refine z59 ?_ | refine z105 rfl ?_ | refine z95 ?_ | refine z82 ?_ | refine z119 ?_ | refine z87 ?_ | refine z5 ?_)
                      simp (maxSteps := 4000000) only [go_sem]
                · rw [if_neg hc] at hwf
                  rw [hwf] at h17
                  rw [if_neg (fun h => hc h.1)] at law1
                  have b2 : (s == -1) = true := by simpa using law1
                  have ht0 : t < 0 := by
                    rcases law2 with h | h
                    · exact h
                    · exact absurd h.1 hc
                  have b3 : decide (t < 0) = true := decide_eq_true ht0
                  repeat (first | refine z33 ?_ | refine z52 ?_ | refine z49 ?_ | (refine z3 fun K hK => ?_; simp (maxSteps := 4000000) only [go_sem]; (repeat (first | (refine ⟨_, .lent (hf := h17) (hd := rfl) (hr := rfl), ?_⟩; simp (maxSteps := 4000000) only [go_sem]) | (refine ⟨_, .lent (hf := h18o) (hd := rfl) (hr := rfl), ?_⟩; simp (maxSteps := 4000000) only [go_sem]) | (refine ⟨_, .lent (hf := h18) (hd := rfl) (hr := rfl), ?_⟩; simp (maxSteps := 4000000) only [go_sem]) | (refine ⟨_, .given (hf := h17) (hd := rfl) (ha := rfl), ?_⟩; simp (maxSteps := 4000000) only [go_sem]) | (refine ⟨_, .given (hf := h18o) (hd := rfl) (ha := rfl), ?_⟩; simp (maxSteps := 4000000) only [go_sem]) | (refine ⟨_, .given (hf := h18) (hd := rfl) (ha := rfl), ?_⟩; simp (maxSteps := 4000000) only [go_sem]))); refine hK _ ?_; clear hK K) | refine z8 ?_ | refine z167 ?_ | refine z85 ?_ | refine z59 ?_ | refine z105 rfl ?_ | refine z95 ?_ | refine z82 ?_ | refine z119 ?_ | refine z87 ?_ | refine z5 ?_)
                  repeat (first | refine z33 ?_ | refine z52 ?_ | refine z49 ?_ | (refine z3 fun K hK => ?_; simp (maxSteps := 4000000) only [go_sem, z16, List.length_map, hla, hlo]; refine hK _ ?_; clear hK K) | refine z8 ?_ | refine z167 ?_ | refine z85 ?_ | refine z59 ?_ | refine z105 rfl ?_ | refine z95 ?_ | refine z82 ?_ | refine z119 ?_ | refine z87 ?_ | refine z5 ?_)
                  refine z7 rfl ?_
                  repeat (first | refine z33 ?_ | refine z52 ?_ | refine z49 ?_ | (refine z3 fun K hK => ?_; simp (maxSteps := 4000000) only [go_sem]; refine hK _ ?_; clear hK K) | refine z8 ?_ | refine z167 ?_ | refine z85 ?_ | refine z59 ?_ | refine z105 rfl ?_ | refine z95 ?_ | refine z82 ?_ | refine z119 ?_ | refine z87 ?_ | refine z5 ?_)
                  refine z7 rfl ?_
                  refine z52 ?_
                  repeat (first | refine z33 ?_ | refine z52 ?_ | refine z49 ?_ | (refine z3 fun K hK => ?_; simp (maxSteps := 4000000) only [go_sem]; refine hK _ ?_; clear hK K) | refine z8 ?_ | refine z167 ?_ | refine z85 ?_ | refine z59 ?_ | refine z105 rfl ?_ | refine z95 ?_ | refine z82 ?_ | refine z119 ?_ | refine z87 ?_ | refine z5 ?_)
                  refine z6 (by kernel_rfl) (by kernel_rfl) fun K hK => ?_
                  simp (maxSteps := 4000000) only [go_sem, go, ga, hto.1, b2, b3]
                  refine ⟨_, .fn (hf := zf8) (hd := rfl) (hr := .inl rfl), ?_⟩
                  simp (maxSteps := 4000000) only [go_sem]
                  refine ⟨by kernel_rfl, hK _ ?_⟩
                  clear hK K
                  repeat (first | refine z33 ?_ | refine z52 ?_ | refine z49 ?_ | (refine z3 fun K hK => ?_; simp (maxSteps := 4000000) only [go_sem]; refine hK _ ?_; clear hK K) | refine z8 ?_ | refine z167 ?_ | refine z85 ?_ | refine z59 ?_ | refine z105 rfl ?_ | refine z95 ?_ | refine z82 ?_ | refine z119 ?_ | refine z87 ?_ | refine z5 ?_)
                  simp (maxSteps := 4000000) only [go_sem]
    · have hk2 : (checkPartyF n x.p != 0) = true := by simpa using hk
      repeat (first | refine z33 ?_ | refine z52 ?_ | refine z49 ?_ | (refine z3 fun K hK => ?_; simp (maxSteps := 4000000) only [go_sem, hk2]; (repeat (first | (refine ⟨_, .lent (hf := h5) (hd := rfl) (hr := rfl), ?_⟩; simp (maxSteps := 4000000) only [go_sem, hk2]) | (refine ⟨_, .lent (hf := h14) (hd := rfl) (hr := rfl), ?_⟩; simp (maxSteps := 4000000) only [go_sem, hk2]) | (refine ⟨_, .given (hf := h5) (hd := rfl) (ha := rfl), ?_⟩; simp (maxSteps := 4000000) only [go_sem, hk2]) | (refine ⟨_, .given (hf := h14) (hd := rfl) (ha := rfl), ?_⟩; simp (maxSteps := 4000000) only [go_sem, hk2]))); refine hK _ ?_; clear hK K) | refine z8 ?_ | refine z167 ?_ | refine z85 ?_ | refine z59 ?_ | refine z105 rfl ?_ | refine z95 ?_ | refine z82 ?_ | refine z119 ?_ | refine z87 ?_ | refine z5 ?_)
      refine z10 rfl ?_
      repeat (first | refine z33 ?_ | refine z52 ?_ | refine z49 ?_ | (refine z3 fun K hK => ?_; simp (maxSteps := 4000000) only [go_sem]; (repeat (first | (refine ⟨_, .lent (hf := zf8) (hd := rfl) (hr := rfl), ?_⟩; simp (maxSteps := 4000000) only [go_sem]) | (refine ⟨_, .given (hf := zf8) (hd := rfl) (ha := rfl), ?_⟩; simp (maxSteps := 4000000) only [go_sem]))); refine hK _ ?_; clear hK K) | refine z8 ?_ | refine z167 ?_ | refine z85 ?_ | refine z59 ?_ | refine z105 rfl ?_ | refine z95 ?_ | refine z82 ?_ | refine z119 ?_ | refine z87 ?_ | refine z5 ?_)
      simp (maxSteps := 4000000) only [go_sem]
  · rw [← missZ, hf] at h5
    repeat (first | refine z33 ?_ | refine z52 ?_ | refine z49 ?_ | (refine z3 fun K hK => ?_; simp (maxSteps := 4000000) only [go_sem]; (repeat (first | (refine ⟨_, .lent (hf := h5) (hd := rfl) (hr := rfl), ?_⟩; simp (maxSteps := 4000000) only [go_sem]) | (refine ⟨_, .given (hf := h5) (hd := rfl) (ha := rfl), ?_⟩; simp (maxSteps := 4000000) only [go_sem]))); refine hK _ ?_; clear hK K) | refine z8 ?_ | refine z167 ?_ | refine z85 ?_ | refine z59 ?_ | refine z105 rfl ?_ | refine z95 ?_ | refine z82 ?_ | refine z119 ?_ | refine z87 ?_ | refine z5 ?_)
    refine z10 rfl ?_
    repeat (first | refine z33 ?_ | refine z52 ?_ | refine z49 ?_ | (refine z3 fun K hK => ?_; simp (maxSteps := 4000000) only [go_sem]; (repeat (first | (refine ⟨_, .lent (hf := zf8) (hd := rfl) (hr := rfl), ?_⟩; simp (maxSteps := 4000000) only [go_sem]) | (refine ⟨_, .given (hf := zf8) (hd := rfl) (ha := rfl), ?_⟩; simp (maxSteps := 4000000) only [go_sem]))); refine hK _ ?_; clear hK K) | refine z8 ?_ | refine z167 ?_ | refine z85 ?_ | refine z59 ?_ | refine z105 rfl ?_ | refine z95 ?_ | refine z82 ?_ | refine z119 ?_ | refine z87 ?_ | refine z5 ?_)
    simp (maxSteps := 4000000) only [go_sem]
end Go.Ab
namespace Go.Ab
open Go.RowKit Go.Proofs Go.ChangeShapes Go.WideShapes Go.Proofs.Ytfkbbaagifpjpaa
set_option linter.unusedVariables false
set_option maxRecDepth 100000
theorem err_of {N : Nat} {r : List DV} (h : Sh.fitsL N errS r) : ∃ x : Errand, r = x.row := by
  simp only [errS, iS, Sh.fitsL, Sh.fits] at h
  obtain ⟨_, _, rfl, ⟨a, rfl, _⟩, _, _, rfl, ⟨b, rfl, _⟩, _, _, rfl, ⟨c, rfl, _⟩, _, _, rfl, ⟨d, rfl, _⟩, _, _, rfl, ⟨e, rfl, _⟩, _, _, rfl, ⟨f, rfl, _⟩, _, _, rfl, ⟨g, rfl, _⟩, rfl⟩ := h
  exact ⟨⟨⟨a, b, ⟨c, d⟩⟩, e, f, g⟩, rfl⟩
theorem errSh : shapes Try.prog 20 50 = some errS := by kernel_rfl
theorem rdErr : Rd 50 (fun x => ∃ e : Errand, x = .agg e.row) :=
  ⟨by kernel_rfl, of_decide_eq_true (by kernel_rfl), fun H enc w base v d ps hok h hd => by
    obtain ⟨e0, hf0, r0⟩ := z874 errSh (by decide) h hd
    obtain ⟨x, rfl⟩ := err_of hf0
    exact ⟨_, ⟨x, rfl⟩, r0⟩⟩
abbrev aR : TypeId × (DV → Prop) := (50, fun x => ∃ e : Errand, x = .agg e.row)
end Go.Ab
