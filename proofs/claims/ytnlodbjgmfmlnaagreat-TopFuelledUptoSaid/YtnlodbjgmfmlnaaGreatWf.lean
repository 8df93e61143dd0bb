/- A walk engine over abstract states, and the contracts of the functions that the statement reaches: part 6. -/
import Derived.Test.YtnlodbjgmfmlnaaGreatWe
set_option linter.unusedVariables false
set_option linter.unusedSimpArgs false
set_option linter.unnecessarySimpa false
namespace Go.Ab
open Go.RowKit Go.Proofs
theorem carr_good {s : Supply} (h : suppE s = 0) {c : Carrier} (hc : c ∈ s.carr) : ((0 ≤ c.lift ∧ c.lift ≤ 1000) ∧ (0 ≤ c.heat ∧ c.heat ≤ 50) ∧ (0 ≤ c.cost ∧ c.cost ≤ 10000)) ∧ limB c.lim = true := by
  rw [suppE, if_pos (supp_look h)] at h
  split at h
  · cases h
  · split at h
    · cases h
    · rename_i h2
      simp only [carrsBad, Bool.or_eq_true, not_or, Bool.not_eq_true] at h2
      have := h2.2
      rw [List.any_eq_false] at this
      have h3 := this c hc
      simp only [carrBad, Bool.or_eq_true, not_or, Bool.not_eq_true, Bool.not_eq_false'] at h3
      exact ⟨⟨within_iff.1 h3.1, within_iff.1 h3.2.1, within_iff.1 h3.2.2.1⟩, h3.2.2.2⟩
theorem store_good {s : Supply} (h : suppE s = 0) : (0 ≤ s.room ∧ s.room ≤ 5000) ∧ (0 ≤ s.stock ∧ s.stock ≤ s.room) ∧ (0 ≤ s.reserve ∧ s.reserve ≤ s.room) ∧ (0 ≤ s.use.lo ∧ s.use.lo ≤ s.use.hi ∧ s.use.hi ≤ 500) := by
  rw [suppE, if_pos (supp_look h)] at h
  split at h
  · cases h
  · rename_i h2
    have h3 : storeBad s = false := by simpa using h2
    simp only [storeBad, Bool.or_eq_false_iff, Bool.not_eq_false'] at h3
    exact ⟨within_iff.1 h3.1, within_iff.1 h3.2.1, within_iff.1 h3.2.2.1, ordered_iff.1 h3.2.2.2⟩
theorem loadOf_range {s : Supply} (h : suppE s = 0) {c : Carrier} (hc : c ∈ s.carr) {t : Nat} (ht : t < s.hours) : loadOf s.scens c t = max 0 (c.lift - c.heat * heatF s.scens t) ∧ 0 ≤ loadOf s.scens c t ∧ loadOf s.scens c t ≤ 1000 := by
  obtain ⟨hg, hsi, hp, _⟩ := look_all (supp_look h)
  have hh := heat_high hg hsi hp ht
  have hl := heat_low s.scens t
  obtain ⟨⟨r1, r2, r3⟩, _⟩ := carr_good h hc
  change heatF s.scens t ≤ 50 at hh
  have m2 : 0 ≤ c.heat * heatF s.scens t := Int.mul_nonneg r2.1 hl
  have m3 : c.heat * heatF s.scens t ≤ 50 * 50 := Int.mul_le_mul r2.2 hh hl (by decide)
  have e : loadOf s.scens c t = max 0 (c.lift - c.heat * heatF s.scens t) := by
    unfold loadOf wr
    rw [wr_small (x := c.heat * heatF s.scens t) (by omega), wr_small (by omega)]
  rw [e]
  exact ⟨rfl, by omega, by omega⟩
theorem ldAt_eq {s : Supply} {c : Nat} {k : Carrier} (hc : s.carr[c]? = some k) {t : Nat} (ht : t < s.hours) : ldAt s.loads c t = if inSp (sureC s.scens s.hours k) t then loadOf s.scens k t else 0 := by
  have : s.loads.getD c [] = loadRow s.scens s.hours k := by simp [Supply.loads, List.getD, hc]
  rw [ldAt, this, getI, loadRow, List.getD, show ((t : Int)).toNat = t by omega, rowQ_at _ _ ht]
  rfl
theorem ldAt_none {s : Supply} {c : Nat} (hc : s.carr[c]? = none) (t : Nat) : ldAt s.loads c t = 0 := by
  have : s.loads.getD c [] = [] := by simp [Supply.loads, List.getD, hc]
  rw [ldAt, this]
  rfl
theorem ldAt_late {s : Supply} (c : Nat) {t : Nat} (ht : s.hours ≤ t) : ldAt s.loads c t = 0 := by
  cases hc : s.carr[c]? with
  | none => exact ldAt_none hc t
  | some k =>
    have : s.loads.getD c [] = loadRow s.scens s.hours k := by simp [Supply.loads, List.getD, hc]
    have hl : (loadRow s.scens s.hours k).length = s.hours := rowQ_len _ _ _
    rw [ldAt, this, getI, List.getD, show ((t : Int)).toNat = t by omega, List.getElem?_eq_none (by omega)]
    rfl
theorem ldAt_range {s : Supply} (h : suppE s = 0) (c t : Nat) : 0 ≤ ldAt s.loads c t ∧ ldAt s.loads c t ≤ 1000 := by
  by_cases ht : t < s.hours
  · cases hc : s.carr[c]? with
    | none => rw [ldAt_none hc]; decide
    | some k =>
      rw [ldAt_eq hc ht]
      have := loadOf_range h (List.mem_of_getElem? hc) ht
      split <;> omega
  · rw [ldAt_late c (by omega)]; decide
theorem fl_small {s : Supply} (h : suppE s = 0) (t : Nat) : FlSmall s.carr s.loads t := by
  refine ⟨fun c => ldAt_range h c t, fun c => ?_⟩
  cases hc : s.carr[c]? with
  | none => simp [List.getD, hc, noCarrier]
  | some k =>
    have := (carr_good h (List.mem_of_getElem? hc)).1.2.2
    simpa [List.getD, hc] using this
theorem fits_iff {s : Supply} (h0 : suppE s = 0) {h : Nat} {b : Int} (hh : h ≤ 48) (hb : 0 ≤ b ∧ b ≤ 100000000) : fitsB6 s h b = true ↔ s.stock + b - h * s.use.lo ≤ s.room := by
  obtain ⟨r1, r2, r3, r4⟩ := store_good h0
  have m1 : 0 ≤ (h : Int) * s.use.lo := Int.mul_nonneg (by omega) r4.1
  have m2 : (h : Int) * s.use.lo ≤ 48 * 500 := Int.mul_le_mul (by omega) (by omega) r4.1 (by decide)
  unfold fitsB6 wr
  rw [wr_small (x := s.stock + b) (by omega), wr_small (x := (h : Int) * s.use.lo) (by omega), wr_small (by omega), decide_eq_true_iff]
theorem suff_iff {s : Supply} (h0 : suppE s = 0) {h : Nat} {b : Int} (hh : h ≤ 48) (hb : 0 ≤ b ∧ b ≤ 100000000) : suffB s h b = true ↔ s.reserve ≤ s.stock + b - (h + 1) * s.use.hi := by
  obtain ⟨r1, r2, r3, r4⟩ := store_good h0
  have m1 : 0 ≤ ((h : Int) + 1) * s.use.hi := Int.mul_nonneg (by omega) (by omega)
  have m2 : ((h : Int) + 1) * s.use.hi ≤ 49 * 500 := Int.mul_le_mul (by omega) (by omega) (by omega) (by decide)
  unfold suffB wr
  rw [wr_small (x := s.stock + b) (by omega), wr_small (x := (h : Int) + 1) (by omega), wr_small (x := ((h : Int) + 1) * s.use.hi) (by omega), wr_small (by omega), decide_eq_true_iff]
theorem fls_iff {s : Supply} {L : List (List Int)} {h : Nat} {b : Int} {f : Flight} : f ∈ fls s L h b ↔ f ∈ flightsTo s.carr L h L.length ∧ fitsB6 s h (wr (b + f.load)) = true ∧ suffB s h (wr (b + f.load)) = true := by
  rw [fls, nextF, List.mem_filter, okFl, Bool.and_eq_true]
theorem fls_ok {s : Supply} (h0 : suppE s = 0) {h : Nat} {b : Int} (hh : h ≤ 48) (hb : 0 ≤ b ∧ b ≤ 4000 * h) {f : Flight} (hf : f ∈ fls s s.loads h b) :
    FlOk s.carr s.loads h s.carr.length f ∧ wr (b + f.load) = b + f.load ∧ (0 ≤ b + f.load ∧ b + f.load ≤ 4000 * ((h + 1 : Nat) : Int)) ∧ s.stock + (b + f.load) - h * s.use.lo ≤ s.room ∧ s.reserve ≤ s.stock + (b + f.load) - (h + 1) * s.use.hi := by
  obtain ⟨h1, h2, h3⟩ := fls_iff.1 hf
  have h6 := small6 h0
  have hl := h6.few
  have o := flights_ok (fl_small h0 h) s.loads.length hl f h1
  have sm := o.small (fl_small h0 h)
  have hl2 : (s.loads.length : Int) ≤ 4 := by omega
  have e : wr (b + f.load) = b + f.load := wr_small (by omega)
  rw [e] at h2 h3
  have hbb : 0 ≤ b + f.load ∧ b + f.load ≤ 100000000 := by omega
  rw [h6.len] at o
  exact ⟨o, e, by omega, (fits_iff h0 hh hbb).1 h2, (suff_iff h0 hh hbb).1 h3⟩
structure PlanOk (s : Supply) (F : Nat → Flight) (B : Nat → Int) : Prop where
  zero : B 0 = 0
  fl : ∀ j < s.hours, FlOk s.carr s.loads j s.carr.length (F j)
  next : ∀ j < s.hours, B (j + 1) = B j + (F j).load
  range : ∀ j ≤ s.hours, 0 ≤ B j ∧ B j ≤ 4000 * j
  fits : ∀ j < s.hours, s.stock + B (j + 1) - j * s.use.lo ≤ s.room
  suff : ∀ j < s.hours, s.reserve ≤ s.stock + B (j + 1) - (j + 1) * s.use.hi
theorem plan_ok {s : Supply} (h0 : suppE s = 0) {F : Nat → Flight} {B : Nat → Int} (hp : PlanW s s.loads 0 s.hours F B) (hb : B 0 = 0) : PlanOk s F B := by
  have hH := (small6 h0).hours
  have rng : ∀ j, j ≤ s.hours → 0 ≤ B j ∧ B j ≤ 4000 * j := by
    intro j
    induction j with
    | zero => intro _; rw [hb]; simp
    | succ j ih =>
      intro hj
      have := ih (by omega)
      have o := fls_ok h0 (by omega) this (hp.mem j (by omega) (by omega))
      rw [hp.next j (by omega) (by omega), o.2.1]
      exact o.2.2.1
  refine ⟨hb, fun j hj => ?_, fun j hj => ?_, rng, fun j hj => ?_, fun j hj => ?_⟩ <;>
    have o := fls_ok h0 (by omega) (rng j (by omega)) (hp.mem j (by omega) (by omega))
  · exact o.1
  · rw [hp.next j (by omega) (by omega), o.2.1]
  · rw [hp.next j (by omega) (by omega), o.2.1]; exact o.2.2.2.1
  · rw [hp.next j (by omega) (by omega), o.2.1]; exact o.2.2.2.2
theorem fold_better (k : Flight → Option Int) : ∀ (l : List Flight) (a : Option Int),
    (∀ c, l.foldl (fun a f => betterC a f (k f)) a = some c → a = some c ∨ ∃ f ∈ l, ∃ w, k f = some w ∧ c = wr (f.cost + w)) ∧
    (∀ v, a = some v → ∃ c, l.foldl (fun a f => betterC a f (k f)) a = some c ∧ c ≤ v) ∧
    (∀ f ∈ l, ∀ w, k f = some w → ∃ c, l.foldl (fun a f => betterC a f (k f)) a = some c ∧ c ≤ wr (f.cost + w))
  | [], a => ⟨fun c h => .inl h, fun v h => ⟨v, h, Int.le_refl _⟩, fun f hf => by cases hf⟩
  | f :: l, a => by
    rw [List.foldl_cons]
    obtain ⟨h1, h2, h3⟩ := fold_better k l (betterC a f (k f))
    refine ⟨fun c hc => ?_, fun v hv => ?_, fun g hg w hw => ?_⟩
    · rcases h1 c hc with h | ⟨g, hg, w, hw, he⟩
      · cases hk : k f with
        | none => rw [hk] at h; exact .inl h
        | some w =>
          rw [hk] at h
          cases a with
          | none =>
            simp only [betterC] at h
            exact .inr ⟨f, List.mem_cons_self, w, hk, (Option.some.inj h).symm⟩
          | some v =>
            simp only [betterC] at h
            split at h
            · exact .inr ⟨f, List.mem_cons_self, w, hk, (Option.some.inj h).symm⟩
            · exact .inl h
      · exact .inr ⟨g, List.mem_cons_of_mem _ hg, w, hw, he⟩
    · subst hv
      cases hk : k f with
      | none => rw [hk] at h2; exact h2 v rfl
      | some w =>
        rw [hk] at h2
        by_cases hlt : wr (f.cost + w) < v
        · obtain ⟨c, hc, hl⟩ := h2 (wr (f.cost + w)) (by simp only [betterC, if_pos hlt])
          exact ⟨c, hc, by omega⟩
        · exact h2 v (by simp only [betterC, if_neg hlt])
    · rcases List.mem_cons.1 hg with rfl | hg
      · rw [hw] at h2 ⊢
        cases a with
        | none => exact h2 _ rfl
        | some v =>
          by_cases hlt : wr (g.cost + w) < v
          · exact h2 _ (by simp only [betterC, if_pos hlt])
          · obtain ⟨c, hc, hl⟩ := h2 v (by simp only [betterC, if_neg hlt])
            exact ⟨c, hc, by omega⟩
      · exact h3 g hg w hw
theorem costF_some {s : Supply} (h0 : suppE s = 0) : ∀ (n : Nat), n ≤ s.hours → ∀ (b c : Int), 0 ≤ b ∧ b ≤ 4000 * ((s.hours - n : Nat) : Int) → costF s s.loads s.hours n b = some c →
    (0 ≤ c ∧ c ≤ 40000 * n) ∧ ∀ m, n = m + 1 → ∃ f ∈ fls s s.loads (s.hours - n) b, ∃ w, costF s s.loads s.hours m (b + f.load) = some w ∧ c = f.cost + w
  | 0, _, b, c, _, hc => by
    rw [costF] at hc
    cases hc
    exact ⟨by simp, fun m hm => by omega⟩
  | n + 1, hn, b, c, hb, hc => by
    have hH := (small6 h0).hours
    rw [costF] at hc
    rcases (fold_better _ _ none).1 c hc with h | ⟨f, hf, w, hw, he⟩
    · cases h
    · have o := fls_ok h0 (by omega) hb hf
      rw [o.2.1] at hw
      have hb2 := o.2.2.1
      rw [show s.hours - (n + 1) + 1 = s.hours - n by omega] at hb2
      have hr := (costF_some h0 n (by omega) _ w hb2 hw).1
      have sm := (o.1.small (fl_small h0 _)).2
      have hfew := (small6 h0).few
      have hln := (small6 h0).len
      have e : c = f.cost + w := by rw [he]; exact wr_small (by omega)
      exact ⟨by omega, fun m hm => by
        have hm2 : m = n := by omega
        rw [hm2]
        exact ⟨f, hf, w, hw, e⟩⟩
structure EasierS (s t : Supply) : Prop where
  scen : t.scen = s.scen
  seen : t.seen = s.seen
  stock : t.stock = s.stock
  use : t.use = s.use
  reserve : t.reserve ≤ s.reserve
  room : s.room ≤ t.room
  carr : ∀ (i : Nat) c, s.carr[i]? = some c → ∃ c', t.carr[i]? = some c' ∧ c'.lift = c.lift ∧ c'.heat = c.heat ∧ c'.lim = c.lim ∧ c'.cost ≤ c.cost
theorem EasierS.len {s t : Supply} (e : EasierS s t) : s.carr.length ≤ t.carr.length := by
  by_cases h : s.carr.length = 0
  · omega
  · obtain ⟨c', hc, _⟩ := e.carr (s.carr.length - 1) _ (List.getElem?_eq_getElem (by omega))
    have := (List.getElem?_eq_some_iff.1 hc).1
    omega
theorem EasierS.load {s t : Supply} (e : EasierS s t) {i : Nat} (hi : i < s.carr.length) (h : Nat) : ldAt t.loads i h = ldAt s.loads i h := by
  have e1 : t.scens = s.scens := by rw [Supply.scens, Supply.scens, e.scen, e.seen]
  have e2 : t.hours = s.hours := by rw [Supply.hours, Supply.hours, e.scen]
  obtain ⟨c, hc⟩ : ∃ c, s.carr[i]? = some c := ⟨_, List.getElem?_eq_getElem hi⟩
  obtain ⟨c', hc', h1, h2, h3, _⟩ := e.carr i c hc
  by_cases hh : h < s.hours
  · rw [ldAt_eq hc hh, ldAt_eq hc' (by rw [e2]; exact hh), e1, e2]
    unfold sureC loadOf
    rw [h1, h2, h3]
  · rw [ldAt_late i (by omega), ldAt_late i (by omega)]
theorem EasierS.flights {s t : Supply} (e : EasierS s t) (h0 : suppE s = 0) (h1 : suppE t = 0) (h : Nat) : ∀ i ≤ s.carr.length, ∀ f ∈ flightsTo s.carr s.loads h i, ∃ f' ∈ flightsTo t.carr t.loads h i, f'.load = f.load ∧ f'.cost ≤ f.cost
  | 0, _, f, hf => ⟨f, hf, rfl, Int.le_refl _⟩
  | i + 1, hi, f, hf => by
    have h6 := small6 h0
    have h6' := small6 h1
    have hfew := h6.few
    have hln := h6.len
    have hfew' := h6'.few
    have hln' := h6'.len
    have hle := e.len
    have ih := e.flights h0 h1 h i (by omega)
    have hl := e.load (i := i) (by omega) h
    rw [flightsTo, stepFl] at hf ⊢
    change f ∈ if ldAt s.loads i h = 0 then _ else _ at hf
    change ∃ f' ∈ if ldAt t.loads i h = 0 then _ else _, _
    rw [hl]
    split at hf
    · rename_i hz
      rw [if_pos hz]
      exact ih f hf
    · rename_i hz
      rw [if_neg hz]
      rcases List.mem_append.1 hf with hf | hf
      · obtain ⟨f', hf', hx⟩ := ih f hf
        exact ⟨f', List.mem_append.2 (.inl hf'), hx⟩
      · obtain ⟨g, hg, rfl⟩ := List.mem_map.1 hf
        obtain ⟨g', hg', h2, h3⟩ := ih g hg
        refine ⟨_, List.mem_append.2 (.inr (List.mem_map_of_mem hg')), ?_, ?_⟩
        · change wr (g'.load + ldAt t.loads i h) = wr (g.load + ldAt s.loads i h)
          rw [h2, hl]
        · have o := (flights_ok (fl_small h0 h) i (by omega) g hg).small (fl_small h0 h)
          have o' := (flights_ok (fl_small h1 h) i (by omega) g' hg').small (fl_small h1 h)
          have c1 := (fl_small h0 h).cost i
          have c2 := (fl_small h1 h).cost i
          have hi4 : (i : Int) ≤ 4 := by omega
          change wr (g'.cost + (t.carr.getD i noCarrier).cost) ≤ wr (g.cost + (s.carr.getD i noCarrier).cost)
          unfold wr
          rw [wr_small (by omega), wr_small (by omega)]
          obtain ⟨c, hc⟩ : ∃ c, s.carr[i]? = some c := ⟨_, List.getElem?_eq_getElem (by omega)⟩
          obtain ⟨c', hc', _, _, _, hle2⟩ := e.carr i c hc
          have e1 : s.carr.getD i noCarrier = c := by simp [List.getD, hc]
          have e2 : t.carr.getD i noCarrier = c' := by simp [List.getD, hc']
          rw [e1, e2]
          omega
theorem flights_more (cs : List Carrier) (L : List (List Int)) (h : Nat) {i j : Nat} (hij : i ≤ j) : ∀ f ∈ flightsTo cs L h i, f ∈ flightsTo cs L h j := by
  induction hij with
  | refl => exact fun f hf => hf
  | step _ ih =>
    intro f hf
    rw [flightsTo, stepFl]
    split
    · exact ih f hf
    · exact List.mem_append.2 (.inl (ih f hf))
theorem EasierS.cost {s t : Supply} (e : EasierS s t) (h0 : suppE s = 0) (h1 : suppE t = 0) : ∀ (n : Nat), n ≤ s.hours → ∀ (b c : Int), 0 ≤ b ∧ b ≤ 4000 * ((s.hours - n : Nat) : Int) → costF s s.loads s.hours n b = some c →
    ∃ c', costF t t.loads t.hours n b = some c' ∧ c' ≤ c
  | 0, _, b, c, _, hc => ⟨c, by rw [costF] at hc ⊢; exact hc, Int.le_refl _⟩
  | n + 1, hn, b, c, hb, hc => by
    have e2 : t.hours = s.hours := by rw [Supply.hours, Supply.hours, e.scen]
    have hH := (small6 h0).hours
    obtain ⟨_, hx⟩ := costF_some h0 (n + 1) hn b c hb hc
    obtain ⟨f, hf, w, hw, rfl⟩ := hx n rfl
    have o := fls_ok h0 (by omega) hb hf
    have hb2 := o.2.2.1
    rw [show s.hours - (n + 1) + 1 = s.hours - n by omega] at hb2
    obtain ⟨w', hw', hle⟩ := e.cost h0 h1 n (by omega) _ w hb2 hw
    have hrw := (costF_some h0 n (by omega) _ w hb2 hw).1
    have hrw' := (costF_some h1 n (by omega) _ w' (by rw [e2]; exact hb2) hw').1
    obtain ⟨g1, g2, g3⟩ := fls_iff.1 hf
    rw [(small6 h0).len] at g1
    obtain ⟨f', hf', q1, q2⟩ := e.flights h0 h1 _ _ (Nat.le_refl _) f g1
    have hlen := e.len
    have hf2 : f' ∈ flightsTo t.carr t.loads (t.hours - (n + 1)) t.loads.length := by
      rw [(small6 h1).len, e2]
      exact flights_more _ _ _ hlen f' hf'
    have hbb : 0 ≤ b + f.load ∧ b + f.load ≤ 100000000 := by omega
    have k1 := o.2.2.2.1
    have k2 := o.2.2.2.2
    have er := e.reserve
    have em := e.room
    have hf3 : f' ∈ fls t t.loads (t.hours - (n + 1)) b := by
      refine fls_iff.2 ⟨hf2, ?_, ?_⟩
      · rw [q1, o.2.1, fits_iff h1 (by omega) hbb, e.stock, e.use, e2]
        omega
      · rw [q1, o.2.1, suff_iff h1 (by omega) hbb, e.stock, e.use, e2]
        omega
    have o' := fls_ok h1 (by omega) (by rw [e2]; exact hb) hf3
    have sm := (o.1.small (fl_small h0 _)).2
    have sm' := (o'.1.small (fl_small h1 _)).2
    have hfew := (small6 h0).few
    have hln := (small6 h0).len
    have hfew' := (small6 h1).few
    have hln' := (small6 h1).len
    rw [costF]
    obtain ⟨c, hc1, hc2⟩ := (fold_better (fun f => costF t t.loads t.hours n (wr (b + f.load))) (fls t t.loads (t.hours - (n + 1)) b) none).2.2 f' hf3 w' (by rw [q1, o.2.1]; exact hw')
    refine ⟨c, hc1, ?_⟩
    have e3 : wr (f'.cost + w') = f'.cost + w' := wr_small (by omega)
    rw [e3] at hc2
    omega
end Go.Ab
namespace Go.Ab
open Go.RowKit Go.Proofs
theorem tripsTo_mem {h : Nat} {set : Int} {n : Nat} {p : Int × Int} : p ∈ tripsTo h set n ↔ ∃ c : Nat, c < n ∧ bitB set c = true ∧ p = ((h : Int), (c : Int)) := by
  simp only [tripsTo, List.mem_map, List.mem_filter, List.mem_range]
  constructor
  · rintro ⟨c, ⟨h1, h2⟩, rfl⟩; exact ⟨c, h1, h2, rfl⟩
  · rintro ⟨c, h1, h2, rfl⟩; exact ⟨c, ⟨h1, h2⟩, rfl⟩
theorem plan_trips {s : Supply} (h0 : suppE s = 0) {p : Int × Int} (hp : p ∈ (planS s).1) : ∃ h c : Nat, p = ((h : Int), (c : Int)) ∧ h < s.hours ∧ c < s.carr.length ∧ ldAt s.loads c h ≠ 0 := by
  rcases planS_spec h0 with ⟨_, he⟩ | ⟨c, F, B, _, hw, hb, he⟩
  · rw [he] at hp; cases hp
  · rw [he] at hp
    obtain ⟨j, hj, hm⟩ := List.mem_flatMap.1 hp
    have hj := List.mem_range.1 hj
    obtain ⟨c, hc, hbt, rfl⟩ := tripsTo_mem.1 hm
    exact ⟨j, c, rfl, hj, hc, ((plan_ok h0 hw hb).fl j hj).some c hc hbt⟩
theorem plan_len {s : Supply} (h0 : suppE s = 0) : (planS s).1.length ≤ 4 * 48 := by
  have h6 := small6 h0
  have hH := h6.hours
  have hc : s.carr.length ≤ 4 := by have := h6.few; have := h6.len; omega
  rcases planS_spec h0 with ⟨_, he⟩ | ⟨c, F, B, _, hw, hb, he⟩
  · rw [he]; decide
  · rw [he]
    have gen : ∀ n, ((List.range n).flatMap fun j => tripsTo j (F j).set s.carr.length).length ≤ 4 * n := by
      intro n
      induction n with
      | zero => simp
      | succ n ih =>
        rw [List.range_succ, List.flatMap_append, List.length_append]
        have := tripsTo_len n (F n).set s.carr.length
        simp only [List.flatMap_cons, List.flatMap_nil, List.append_nil]
        omega
    have := gen s.hours
    dsimp only
    omega
end Go.Ab
namespace Go.Ab
open Go.RowKit Go.Proofs Go.ChangeShapes Go.WideShapes Go.Proofs.YtnlodbjgmfmlnaaGreat
set_option linter.unusedVariables false
set_option maxRecDepth 100000
def plantS : List Sh := [.sl [.sl hourS], .sl sightS, .sl [iS], iS, iS, iS, iS, iS, iS, iS, iS, iS, .sl [iS]]
theorem plant_of {N : Nat} (hN : N < 2 ^ 30) {r : List DV} (h : Sh.fitsL N plantS r) : ∃ p : Plant, r = p.cells ∧ PlantSmall p := by
  unfold plantS at h
  rw [Sh.fitsL] at h
  obtain ⟨x0, _, rfl, h0, h⟩ := h
  rw [Sh.fitsL] at h
  obtain ⟨x1, _, rfl, h1, h⟩ := h
  rw [Sh.fitsL] at h
  obtain ⟨x2, _, rfl, h2, h⟩ := h
  obtain ⟨F, rfl, zf1, zf2⟩ := scens_of h0
  obtain ⟨S, rfl, s1⟩ := sights_of h1
  obtain ⟨U, rfl, u1⟩ := ints_of h2
  rw [Sh.fitsL] at h
  obtain ⟨y1, _, rfl, k1, h⟩ := h
  rw [Sh.fitsL] at h
  obtain ⟨y2, _, rfl, k2, h⟩ := h
  rw [Sh.fitsL] at h
  obtain ⟨y3, _, rfl, k3, h⟩ := h
  rw [Sh.fitsL] at h
  obtain ⟨y4, _, rfl, k4, h⟩ := h
  rw [Sh.fitsL] at h
  obtain ⟨y5, _, rfl, k5, h⟩ := h
  rw [Sh.fitsL] at h
  obtain ⟨y6, _, rfl, k6, h⟩ := h
  rw [Sh.fitsL] at h
  obtain ⟨y7, _, rfl, k7, h⟩ := h
  rw [Sh.fitsL] at h
  obtain ⟨y8, _, rfl, k8, h⟩ := h
  rw [Sh.fitsL] at h
  obtain ⟨y9, _, rfl, k9, h⟩ := h
  rw [Sh.fitsL] at h
  obtain ⟨y10, _, rfl, k10, h⟩ := h
  rw [Sh.fitsL] at h
  subst h
  obtain ⟨D, rfl, d1⟩ := ints_of k10
  simp only [iS, Sh.fits] at k1 k2 k3 k4 k5 k6 k7 k8 k9
  obtain ⟨a1, rfl, _⟩ := k1
  obtain ⟨a2, rfl, _⟩ := k2
  obtain ⟨a3, rfl, _⟩ := k3
  obtain ⟨a4, rfl, _⟩ := k4
  obtain ⟨a5, rfl, _⟩ := k5
  obtain ⟨a6, rfl, _⟩ := k6
  obtain ⟨a7, rfl, _⟩ := k7
  obtain ⟨a8, rfl, _⟩ := k8
  obtain ⟨a9, rfl, _⟩ := k9
  refine ⟨⟨F, S, U, a1, a2, a3, a4, a5, a6, a7, a8, a9, D⟩, rfl, ⟨⟨?_, fun l hl => ?_⟩, ?_, ?_, ?_⟩⟩
  · show F.length < 2 ^ 30
    omega
  · have := zf2 l hl
    omega
  · show S.length < 2 ^ 30
    omega
  · show U.length < 2 ^ 30
    omega
  · show D.length < 2 ^ 30
    omega
theorem plantSh : shapes Tryz.prog 20 61 = some plantS := by kernel_rfl
theorem rdPlant : Rd 61 (fun x => ∃ p : Plant, x = .agg p.cells ∧ PlantSmall p) :=
  ⟨by kernel_rfl, of_decide_eq_true (by kernel_rfl), fun H enc w base v d ps _ h hd => by
    obtain ⟨ds, hf, hr⟩ := agg_read plantSh (by decide) h hd
    obtain ⟨p, rfl, hp⟩ := plant_of (by decide) hf
    exact ⟨_, ⟨p, rfl, hp⟩, hr⟩⟩
abbrev aP : TypeId × (DV → Prop) := (61, fun x => ∃ p : Plant, x = .agg p.cells ∧ PlantSmall p)
end Go.Ab
namespace Go.Ab
open Go.RowKit Go.Proofs
set_option maxHeartbeats 8000000
set_option maxRecDepth 40000
attribute [local irreducible] WalkL Walk
def exG : Grid := ⟨exP, exF, 6⟩
theorem ex_open : openE exP [] = 0 := by kernel_rfl
theorem ex_grid : gridOf exP = exG := by kernel_rfl
theorem ex_planG : planG exG = some ([0, 0, 0, 0, 1, 1], 2) := by kernel_rfl
theorem ex_planP : planP exP = ([0, 0, 0, 0, 1, 1], 2, 0) := by
  unfold planP
  rw [if_pos ex_open, ex_grid, ex_planG]
theorem exP_small : PlantSmall exP := by
  refine ⟨⟨by decide, fun l hl => ?_⟩, by decide, by decide, by decide⟩
  simp only [exP, exF, List.mem_cons, List.not_mem_nil, or_false] at hl
  rcases hl with rfl | rfl <;> decide
theorem ex_look : lookF exF [] 0 true = 0 := by kernel_rfl
theorem ex_nums : numsOf (possL exF []) = [0, 1] := by kernel_rfl
theorem zf32 : Fn Tryz.prog 32 [] (.bool true) := by
  have h76 := zf76
  have h35 := zf35 exP exP_small
  have h49 := zf49
  have h28 := zf28 exS exS_small exS_ok
  have h34 := zf34 exF [] exP_small.fore (by decide)
  rw [ex_planP] at h35
  rw [exS_plan.1, exS_plan.2] at h28
  rw [ex_look, if_pos rfl, ex_nums] at h34
  obtain ⟨T, hT⟩ : ∃ T, T = tripRows (planS exS).1 := ⟨_, rfl⟩
  rw [← hT] at h28
  have hi : intRows [0, 1] = [[.i 0], [.i 1]] := rfl
  have hs0 : sightRows [] = [] := rfl
  have hpc : exP.cells = [.sl (scenRows exF), .sl (sightRows []), .sl (intRows exP.sun), .i exP.gain, .i exP.start, .i exP.stop, .i exP.charge, .i exP.capacity, .i exP.reserve, .i exP.gas, .i exP.rate, .i exP.units, .sl (intRows exP.needs)] := rfl
  rw [hpc] at h35 h76
  rw [hs0] at h34 h35 h76
  rw [hi] at h34
  rw [Supply.cells] at h28 h49
  obtain ⟨F, hF⟩ : ∃ F, F = scenRows exS.scen := ⟨_, rfl⟩
  obtain ⟨C, hC⟩ : ∃ C, C = carrRows exS.carr := ⟨_, rfl⟩
  obtain ⟨G, hG⟩ : ∃ G, G = sightRows exS.seen := ⟨_, rfl⟩
  rw [← hF, ← hC, ← hG] at h28 h49
  obtain ⟨E, hE⟩ : ∃ E, E = scenRows exF := ⟨_, rfl⟩
  rw [← hE] at h34 h35 h76
  obtain ⟨U1, hU1⟩ : ∃ U, U = intRows exP.sun := ⟨_, rfl⟩
  obtain ⟨U2, hU2⟩ : ∃ U, U = intRows exP.needs := ⟨_, rfl⟩
  rw [← hU1, ← hU2] at h35 h76
  obtain ⟨B, hB⟩ : ∃ B, B = intRows [0, 0, 0, 0, 1, 1] := ⟨_, rfl⟩
  dsimp only at h35
  rw [← hB] at h35
  refine fn_walk 50 Tryz.call32 Tryz.func32 rfl (by decide) fun J => ?_
  simp (maxSteps := 4000000) only [go_sem, St.start, Tryz.ntmps32, Tryz.results32]
  repeat (first | refine walkL_true rfl ?_ | refine walkL_false rfl ?_ | refine walkL_seq ?_ | refine walkL_skip ?_ | refine walkL_block ?_ | (refine walkL_region fun K hK => ?_; simp (maxSteps := 4000000) only [go_sem]; (repeat (first | (refine ⟨_, .lent (hf := h76) (hd := rfl) (hr := rfl), ?_⟩; simp (maxSteps := 4000000) only [go_sem]) | (refine ⟨_, .lent (hf := h35) (hd := rfl) (hr := rfl), ?_⟩; simp (maxSteps := 4000000) only [go_sem]) | (refine ⟨_, .lent (hf := h49) (hd := rfl) (hr := rfl), ?_⟩; simp (maxSteps := 4000000) only [go_sem]) | (refine ⟨_, .lent (hf := h28) (hd := rfl) (hr := rfl), ?_⟩; simp (maxSteps := 4000000) only [go_sem]) | (refine ⟨_, .lent (hf := h34) (hd := rfl) (hr := rfl), ?_⟩; simp (maxSteps := 4000000) only [go_sem]) | (refine ⟨_, .given (hf := h76) (hd := rfl) (ha := rfl), ?_⟩; simp (maxSteps := 4000000) only [go_sem]) | (refine ⟨_, .given (hf := h35) (hd := rfl) (ha := rfl), ?_⟩; simp (maxSteps := 4000000) only [go_sem]) | (refine ⟨_, .given (hf := h49) (hd := rfl) (ha := rfl), ?_⟩; simp (maxSteps := 4000000) only [go_sem]) | (refine ⟨_, .given (hf := h28) (hd := rfl) (ha := rfl), ?_⟩; simp (maxSteps := 4000000) only [go_sem]) | (refine ⟨_, .given (hf := h34) (hd := rfl) (ha := rfl), ?_⟩; simp (maxSteps := 4000000) only [go_sem]))); refine hK _ ?_; clear hK K) | refine walkL_nil ?_ | refine walkL_ret ?_ | refine walkL_exit ?_ | refine blockA_here ?_ | refine blockA_other rfl ?_ | refine blockA_ret ?_ | refine blockA_normal ?_ | refine thenA_ret ?_ | refine thenA_exit ?_ | refine thenA_normal ?_)
  simp (maxSteps := 4000000) only [go_sem]
end Go.Ab
namespace Go.Ab
open Go.RowKit Go.Proofs
set_option maxHeartbeats 16000000
set_option maxRecDepth 20000
attribute [local irreducible] WalkL Walk
def trBad (s : Supply) (i : Nat) (p t : Int × Int) : Bool := !withinB t.1 0 ((s.hours : Int) - 1) || (!withinB t.2 0 ((s.carr.length : Int) - 1) || (ldAt s.loads t.2.toNat t.1.toNat == 0 || (decide ((i : Int) > 0) && (decide (t.1 < p.1) || (t.1 == p.1 && decide (t.2 ≤ p.2))))))
def trFrom (s : Supply) : List (Int × Int) → Nat → Int × Int → Bool
  | [], _, _ => true
  | t :: l, i, p => if trBad s i p t then false else trFrom s l (i + 1) t
def tripsB (s : Supply) (T : List (Int × Int)) : Bool := trFrom s T 0 (0, 0) && decide ((T.length : Int) ≤ 192)
theorem tripRows_at {l : List (Int × Int)} {i : Nat} {x : Int × Int} (h : l[i]? = some x) : (tripRows l)[i]? = some [.i x.1, .i x.2] := by simp [tripRows, h]
theorem ld_row {s : Supply} (h0 : suppE s = 0) {c h : Nat} (hc : c < s.carr.length) (hh : h < s.hours) : ∃ r, s.loads[c]? = some r ∧ (listRows s.loads)[c]? = some [.sl (intRows r)] ∧ r.length = s.hours ∧ (intRows r)[h]? = some [.i (ldAt s.loads c h)] := by
  have h6 := small6 h0
  obtain ⟨r, hr⟩ : ∃ r, s.loads[c]? = some r := ⟨_, List.getElem?_eq_getElem (by have := h6.len; omega)⟩
  have hl := h6.rows r (List.mem_of_getElem? hr)
  refine ⟨r, hr, listRows_at hr, hl, ?_⟩
  obtain ⟨x, hx⟩ : ∃ x, r[h]? = some x := ⟨_, List.getElem?_eq_getElem (by omega)⟩
  rw [intRows_at hx, ldAt, List.getD, hr, Option.getD_some, getI, Int.toNat_natCast, List.getD, hx]
  rfl
theorem zf99 (s : Supply) (T : List (Int × Int)) (h0 : suppE s = 0) (hT : T.length < 2 ^ 30) : Fn Tryz.prog 99 [.ptr (hutOf s) 0, .sl (tripRows T)] (.bool (tripsB s T)) := by
  have h6 := small6 h0
  have hH := h6.hours
  have hnc : s.carr.length ≤ 4 := by have := h6.few; have := h6.len; omega
  obtain ⟨R, hR⟩ : ∃ R, R = trFrom s T 0 (0, 0) := ⟨_, rfl⟩
  unfold tripsB
  rw [← hR]
  have w1 : IntKind.i64.wrap ((s.hours : Int) - 1) = (s.hours : Int) - 1 := wr_small (by omega)
  have w2 : IntKind.i64.wrap ((s.carr.length : Int) - 1) = (s.carr.length : Int) - 1 := wr_small (by omega)
  have hrow : ∀ c h : Nat, c < s.carr.length → h < s.hours → _ := fun c h hc hh => ld_row h0 hc hh
  have hld := fun c h : Nat => (rfl : ldAt s.loads c h = ldAt s.loads c h)
  obtain ⟨H, hHd⟩ : ∃ H, H = s.hours := ⟨_, rfl⟩
  obtain ⟨L, hL⟩ : ∃ L, L = s.loads := ⟨_, rfl⟩
  refine fn_walk 82 Tryz.call99 Tryz.func99 rfl (by decide) fun J => ?_
  simp (maxSteps := 4000000) only [go_sem, St.start, Tryz.ntmps99, Tryz.results99, hutOf, hutRow]
  repeat (first | refine walkL_seq ?_ | refine walkL_skip ?_ | refine walkL_block ?_ | (refine walkL_region fun K hK => ?_; simp (maxSteps := 4000000) only [go_sem, tripRows_len]; refine hK _ ?_; clear hK K) | refine walkL_nil ?_ | refine walkL_ret ?_ | refine walkL_exit ?_ | refine blockA_here ?_ | refine blockA_other rfl ?_ | refine blockA_ret ?_ | refine blockA_normal ?_ | refine thenA_ret ?_ | refine thenA_exit ?_ | refine thenA_normal ?_)
  refine walkL_loopS (fun (a : Nat × Int × Int) => [(10, .d (.i (a.1 : Int)))]) (fun a => [(5, some (.box [.d (.i a.2.1), .d (.i a.2.2)]))]) (fun a => a.1 ≤ T.length ∧ R = trFrom s (T.drop a.1) a.1 (a.2.1, a.2.2)) (fun a => T.length - a.1) (0, 0, 0) ?_ ⟨Nat.zero_le _, hR⟩ ?_
  · simp (maxSteps := 4000000) only [go_sem]
    refine weak_of [] ?_ ?_ rfl rfl <;> simp [lessT, lessM, lessB, AV.less]
    all_goals first | done | rfl
  · rintro ⟨i, p1, p2⟩ ⟨hi, hRi⟩
    dsimp only at hi hRi
    simp (maxSteps := 4000000) only [go_sem]
    repeat (first | refine walkL_seq ?_ | refine walkL_skip ?_ | refine walkL_block ?_ | (refine walkL_region fun K hK => ?_; simp (maxSteps := 4000000) only [go_sem, tripRows_len]; refine hK _ ?_; clear hK K) | refine walkL_nil ?_ | refine walkL_ret ?_ | refine walkL_exit ?_ | refine blockA_here ?_ | refine blockA_other rfl ?_ | refine blockA_ret ?_ | refine blockA_normal ?_ | refine thenA_ret ?_ | refine thenA_exit ?_ | refine thenA_normal ?_)
    refine walkL_cond rfl (fun hb => ?_) (fun hb => ?_)
    · have hlt : i < T.length := by simpa using hb
      have hw : IntKind.i64.wrap ((i : Int) + 1) = ((i + 1 : Nat) : Int) := by rw [wr_small (by omega)]; simp
      obtain ⟨⟨t1, t2⟩, ht⟩ : ∃ t, T[i]? = some t := ⟨_, List.getElem?_eq_getElem hlt⟩
      have g1 := tripRows_at ht
      dsimp only at g1
      rw [drop_get ht, trFrom] at hRi
      have ca := zf53 t1 0 ((s.hours : Int) - 1)
      have cb := zf53 t2 0 ((s.carr.length : Int) - 1)
      repeat (first | refine walkL_seq ?_ | refine walkL_skip ?_ | refine walkL_block ?_ | (refine walkL_region fun K hK => ?_; simp (maxSteps := 4000000) only [go_sem, g1]; refine hK _ ?_; clear hK K) | refine walkL_nil ?_ | refine walkL_ret ?_ | refine walkL_exit ?_ | refine blockA_here ?_ | refine blockA_other rfl ?_ | refine blockA_ret ?_ | refine blockA_normal ?_ | refine thenA_ret ?_ | refine thenA_exit ?_ | refine thenA_normal ?_)
      cases hA : withinB t1 0 ((s.hours : Int) - 1)
      · have hbad : trBad s i (p1, p2) (t1, t2) = true := by simp [trBad, hA]
        rw [hbad, if_pos rfl] at hRi
        rw [hRi]
        rw [hA] at ca
        refine walkL_drawn (by kernel_rfl) (by kernel_rfl) fun K hK => ?_
        simp (maxSteps := 4000000) only [go_sem, w1]
        refine ⟨_, .fn (hf := ca) (hd := rfl) (hr := .inl rfl), ?_⟩
        simp (maxSteps := 4000000) only [go_sem, w1]
        refine ⟨by kernel_rfl, hK _ ?_⟩
        clear hK K
        repeat (first | refine walkL_true rfl ?_ | refine walkL_false rfl ?_ | refine walkL_seq ?_ | refine walkL_skip ?_ | refine walkL_block ?_ | (refine walkL_region fun K hK => ?_; simp (maxSteps := 4000000) only [go_sem]; refine hK _ ?_; clear hK K) | refine walkL_nil ?_ | refine walkL_ret ?_ | refine walkL_exit ?_ | refine blockA_here ?_ | refine blockA_other rfl ?_ | refine blockA_ret ?_ | refine blockA_normal ?_ | refine thenA_ret ?_ | refine thenA_exit ?_ | refine thenA_normal ?_)
        simp (maxSteps := 4000000) only [go_sem]
      · cases hB : withinB t2 0 ((s.carr.length : Int) - 1)
        · have hbad : trBad s i (p1, p2) (t1, t2) = true := by simp [trBad, hA, hB]
          rw [hbad, if_pos rfl] at hRi
          rw [hRi]
          rw [hA] at ca
          rw [hB] at cb
          refine walkL_drawn (by kernel_rfl) (by kernel_rfl) fun K hK => ?_
          simp (maxSteps := 4000000) only [go_sem, w1]
          refine ⟨_, .fn (hf := ca) (hd := rfl) (hr := .inl rfl), ?_⟩
          simp (maxSteps := 4000000) only [go_sem, w1, w2, carrRows_len]
          refine ⟨_, .fn (hf := cb) (hd := rfl) (hr := .inl rfl), ?_⟩
          simp (maxSteps := 4000000) only [go_sem, w1, w2, carrRows_len]
          refine ⟨by kernel_rfl, hK _ ?_⟩
          clear hK K
          repeat (first | refine walkL_true rfl ?_ | refine walkL_false rfl ?_ | refine walkL_seq ?_ | refine walkL_skip ?_ | refine walkL_block ?_ | (refine walkL_region fun K hK => ?_; simp (maxSteps := 4000000) only [go_sem]; refine hK _ ?_; clear hK K) | refine walkL_nil ?_ | refine walkL_ret ?_ | refine walkL_exit ?_ | refine blockA_here ?_ | refine blockA_other rfl ?_ | refine blockA_ret ?_ | refine blockA_normal ?_ | refine thenA_ret ?_ | refine thenA_exit ?_ | refine thenA_normal ?_)
          simp (maxSteps := 4000000) only [go_sem]
        · have rA := within_iff.1 hA
          have rB := within_iff.1 hB
          obtain ⟨h, rfl⟩ : ∃ h : Nat, t1 = h := ⟨t1.toNat, by omega⟩
          obtain ⟨c, rfl⟩ : ∃ c : Nat, t2 = c := ⟨t2.toNat, by omega⟩
          obtain ⟨r, _, gl, hrl, gr⟩ := hrow c h (by omega) (by omega)
          obtain ⟨v, hv⟩ : ∃ v, ldAt s.loads c h = v := ⟨_, rfl⟩
          rw [hv] at gr
          rw [hA] at ca
          rw [hB] at cb
          have hnh : ¬ ((h : Int) < 0) := by omega
          have hncc : ¬ ((c : Int) < 0) := by omega
          obtain ⟨b3, hb3⟩ : ∃ b3, (v == 0) = b3 := ⟨_, rfl⟩
          obtain ⟨b4, hb4⟩ : ∃ b4, decide ((i : Int) > 0) = b4 := ⟨_, rfl⟩
          obtain ⟨b5, hb5⟩ : ∃ b5, decide ((h : Int) < p1) = b5 := ⟨_, rfl⟩
          obtain ⟨b6, hb6⟩ : ∃ b6, ((h : Int) == p1) = b6 := ⟨_, rfl⟩
          obtain ⟨b7, hb7⟩ : ∃ b7, decide ((c : Int) ≤ p2) = b7 := ⟨_, rfl⟩
          have hval : trBad s i (p1, p2) ((h : Int), (c : Int)) = (b3 || (b4 && (b5 || (b6 && b7)))) := by
            rw [trBad]
            dsimp only
            rw [hA, hB, Int.toNat_natCast, Int.toNat_natCast, hv, hb3, hb4, hb5, hb6, hb7]
            rfl
          rw [hval] at hRi
          refine walkL_meetS [(76, .d (.bool (b3 || (b4 && (b5 || (b6 && b7))))))] [] ?_ ?_
          · refine walkL_drawn (by kernel_rfl) (by kernel_rfl) fun K hK => ?_
            simp (maxSteps := 4000000) only [go_sem, w1, w2, carrRows_len, gl, gr, hnh, hncc, hb3, hb4, hb5, hb6, hb7]
            refine ⟨_, .fn (hf := ca) (hd := rfl) (hr := .inl rfl), ?_⟩
            simp (maxSteps := 4000000) only [go_sem, w1, w2, carrRows_len, gl, gr, hnh, hncc, hb3, hb4, hb5, hb6, hb7]
            refine ⟨_, .fn (hf := cb) (hd := rfl) (hr := .inl rfl), ?_⟩
            simp (maxSteps := 4000000) only [go_sem, w1, w2, carrRows_len, gl, gr, hnh, hncc, hb3, hb4, hb5, hb6, hb7]
            by_cases ho0 : (b3) = true
            · simp (maxSteps := 4000000) only [go_sem, w1, w2, carrRows_len, gl, gr, hnh, hncc, hb3, hb4, hb5, hb6, hb7, ho0]
              refine ⟨by kernel_rfl, hK _ ?_⟩
              clear hK K
              refine walkL_nil ?_
              refine thenA_normal ?_
              refine ⟨rfl, ?_⟩
              rw [show (b3 || (b4 && (b5 || (b6 && b7)))) = (true) from by simp [ho0]]
              simp (maxSteps := 4000000) only [go_sem]
              refine weak_of [] ?_ ?_ rfl rfl <;> simp [lessT, lessM, lessB, AV.less]
            · simp (maxSteps := 4000000) only [go_sem, w1, w2, carrRows_len, gl, gr, hnh, hncc, hb3, hb4, hb5, hb6, hb7, ho0]
              by_cases ho1 : (b4) = true
              · simp (maxSteps := 4000000) only [go_sem, w1, w2, carrRows_len, gl, gr, hnh, hncc, hb3, hb4, hb5, hb6, hb7, ho0, ho1]
                by_cases ho2 : (b5) = true
                · simp (maxSteps := 4000000) only [go_sem, w1, w2, carrRows_len, gl, gr, hnh, hncc, hb3, hb4, hb5, hb6, hb7, ho0, ho1, ho2]
                  refine ⟨by kernel_rfl, hK _ ?_⟩
                  clear hK K
                  refine walkL_nil ?_
                  refine thenA_normal ?_
                  refine ⟨rfl, ?_⟩
                  rw [show (b3 || (b4 && (b5 || (b6 && b7)))) = (true) from by simp [ho0, ho1, ho2]]
                  simp (maxSteps := 4000000) only [go_sem]
                  refine weak_of [] ?_ ?_ rfl rfl <;> simp [lessT, lessM, lessB, AV.less]
                · simp (maxSteps := 4000000) only [go_sem, w1, w2, carrRows_len, gl, gr, hnh, hncc, hb3, hb4, hb5, hb6, hb7, ho0, ho1, ho2]
                  by_cases ho3 : (b6) = true
                  · simp (maxSteps := 4000000) only [go_sem, w1, w2, carrRows_len, gl, gr, hnh, hncc, hb3, hb4, hb5, hb6, hb7, ho0, ho1, ho2, ho3]
                    refine ⟨by kernel_rfl, hK _ ?_⟩
                    clear hK K
                    refine walkL_nil ?_
                    refine thenA_normal ?_
                    refine ⟨rfl, ?_⟩
                    rw [show (b3 || (b4 && (b5 || (b6 && b7)))) = (b7) from by simp [ho0, ho1, ho2, ho3]]
                    simp (maxSteps := 4000000) only [go_sem]
                    refine weak_of [] ?_ ?_ rfl rfl <;> simp [lessT, lessM, lessB, AV.less]
                  · simp (maxSteps := 4000000) only [go_sem, w1, w2, carrRows_len, gl, gr, hnh, hncc, hb3, hb4, hb5, hb6, hb7, ho0, ho1, ho2, ho3]
                    refine ⟨by kernel_rfl, hK _ ?_⟩
                    clear hK K
                    refine walkL_nil ?_
                    refine thenA_normal ?_
                    refine ⟨rfl, ?_⟩
                    rw [show (b3 || (b4 && (b5 || (b6 && b7)))) = (false) from by simp [ho0, ho1, ho2, ho3]]
                    simp (maxSteps := 4000000) only [go_sem]
                    refine weak_of [] ?_ ?_ rfl rfl <;> simp [lessT, lessM, lessB, AV.less]
              · simp (maxSteps := 4000000) only [go_sem, w1, w2, carrRows_len, gl, gr, hnh, hncc, hb3, hb4, hb5, hb6, hb7, ho0, ho1]
                refine ⟨by kernel_rfl, hK _ ?_⟩
                clear hK K
                refine walkL_nil ?_
                refine thenA_normal ?_
                refine ⟨rfl, ?_⟩
                rw [show (b3 || (b4 && (b5 || (b6 && b7)))) = (false) from by simp [ho0, ho1]]
                simp (maxSteps := 4000000) only [go_sem]
                refine weak_of [] ?_ ?_ rfl rfl <;> simp [lessT, lessM, lessB, AV.less]
          simp (maxSteps := 4000000) only [go_sem]
          refine walkL_cond rfl (fun hc => ?_) (fun hc => ?_)
          · rw [hc, if_pos rfl] at hRi
            rw [hRi]
            repeat (first | refine walkL_seq ?_ | refine walkL_skip ?_ | refine walkL_block ?_ | (refine walkL_region fun K hK => ?_; simp (maxSteps := 4000000) only [go_sem]; refine hK _ ?_; clear hK K) | refine walkL_nil ?_ | refine walkL_ret ?_ | refine walkL_exit ?_ | refine blockA_here ?_ | refine blockA_other rfl ?_ | refine blockA_ret ?_ | refine blockA_normal ?_ | refine thenA_ret ?_ | refine thenA_exit ?_ | refine thenA_normal ?_)
            simp (maxSteps := 4000000) only [go_sem]
          · rw [hc] at hRi
            repeat (first | refine walkL_seq ?_ | refine walkL_skip ?_ | refine walkL_block ?_ | (refine walkL_region fun K hK => ?_; simp (maxSteps := 4000000) only [go_sem, hw]; refine hK _ ?_; clear hK K) | refine walkL_nil ?_ | refine walkL_ret ?_ | refine walkL_exit ?_ | refine blockA_here ?_ | refine blockA_other rfl ?_ | refine blockA_ret ?_ | refine blockA_normal ?_ | refine thenA_ret ?_ | refine thenA_exit ?_ | refine thenA_normal ?_)
            refine ⟨rfl, (i + 1, (h : Int), (c : Int)), ?_, ⟨hlt, hRi⟩, by dsimp only; omega⟩
            refine weak_of [] ?_ ?_ rfl rfl <;> simp [lessT, lessM, lessB, AV.less]
            all_goals first | done | rfl
    · have he : i = T.length := by (have : ¬ i < T.length := by simpa using hb); omega
      subst he
      rw [List.drop_length, trFrom] at hRi
      rw [hRi]
      repeat (first | refine walkL_seq ?_ | refine walkL_skip ?_ | refine walkL_block ?_ | (refine walkL_region fun K hK => ?_; simp (maxSteps := 4000000) only [go_sem, tripRows_len]; refine hK _ ?_; clear hK K) | refine walkL_nil ?_ | refine walkL_ret ?_ | refine walkL_exit ?_ | refine blockA_here ?_ | refine blockA_other rfl ?_ | refine blockA_ret ?_ | refine blockA_normal ?_ | refine thenA_ret ?_ | refine thenA_exit ?_ | refine thenA_normal ?_)
      simp (maxSteps := 4000000) only [go_sem]
structure TripGood (s : Supply) (T : List (Int × Int)) : Prop where
  at' : ∀ t ∈ T, ∃ h c : Nat, t = ((h : Int), (c : Int)) ∧ h < s.hours ∧ c < s.carr.length
  len : T.length ≤ 192
theorem trFrom_in {s : Supply} : ∀ (T : List (Int × Int)) (i : Nat) (p : Int × Int), trFrom s T i p = true → ∀ t ∈ T, ∃ h c : Nat, t = ((h : Int), (c : Int)) ∧ h < s.hours ∧ c < s.carr.length ∧ ldAt s.loads c h ≠ 0
  | [], _, _, _, t, ht => by cases ht
  | u :: T, i, p, h, t, ht => by
    rw [trFrom] at h
    split at h
    · cases h
    · rename_i hb
      rcases List.mem_cons.1 ht with rfl | ht
      · simp only [trBad, Bool.or_eq_true, not_or, Bool.not_eq_true, Bool.not_eq_false'] at hb
        obtain ⟨h1, h2, h3, _⟩ := hb
        have r1 := within_iff.1 h1
        have r2 := within_iff.1 h2
        refine ⟨t.1.toNat, t.2.toNat, ?_, by omega, by omega, by simpa using h3⟩
        rw [Int.toNat_of_nonneg r1.1, Int.toNat_of_nonneg r2.1]
      · exact trFrom_in T _ _ h t ht
theorem trips_good {s : Supply} {T : List (Int × Int)} (h : tripsB s T = true) : TripGood s T := by
  rw [tripsB, Bool.and_eq_true, decide_eq_true_iff] at h
  refine ⟨fun t ht => ?_, by omega⟩
  obtain ⟨a, b, h1, h2, h3, _⟩ := trFrom_in T _ _ h.1 t ht
  exact ⟨a, b, h1, h2, h3⟩
def ofTrip (s : Supply) (h : Nat) (t : Int × Int) : Int := if t.1 = (h : Int) then ldAt s.loads t.2.toNat h else 0
def brought (s : Supply) : List (Int × Int) → Nat → Int
  | [], _ => 0
  | t :: T, h => ofTrip s h t + brought s T h
theorem brought_app (s : Supply) : ∀ (T U : List (Int × Int)) (h : Nat), brought s (T ++ U) h = brought s T h + brought s U h
  | [], U, h => by simp [brought]
  | t :: T, U, h => by rw [List.cons_append, brought, brought, brought_app s T U h]; omega
theorem brought_range {s : Supply} (h0 : suppE s = 0) : ∀ (T : List (Int × Int)) (h : Nat), 0 ≤ brought s T h ∧ brought s T h ≤ 1000 * T.length
  | [], h => by simp [brought]
  | t :: T, h => by
    have ih := brought_range h0 T h
    have := ldAt_range h0 t.2.toNat h
    rw [brought, ofTrip, List.length_cons]
    split <;> omega
def arrL (s : Supply) (T : List (Int × Int)) : List Int := (List.range s.hours).map (brought s T)
theorem arrL_len (s : Supply) (T : List (Int × Int)) : (arrL s T).length = s.hours := by simp [arrL]
theorem arrL_at {s : Supply} (T : List (Int × Int)) {h : Nat} (hh : h < s.hours) : (arrL s T)[h]? = some (brought s T h) := by simp [arrL, hh]
theorem arrL_nil (s : Supply) : arrL s [] = List.replicate s.hours 0 := by
  refine List.ext_getElem? fun i => ?_
  by_cases h : i < s.hours
  · rw [arrL_at [] h, List.getElem?_replicate, if_pos h]; rfl
  · rw [List.getElem?_eq_none (by rw [arrL_len]; omega), List.getElem?_eq_none (by simp; omega)]
theorem arrL_add (s : Supply) (T : List (Int × Int)) {h c : Nat} (hh : h < s.hours) : (arrL s T).set h (brought s T h + ldAt s.loads c h) = arrL s (T ++ [((h : Int), (c : Int))]) := by
  refine List.ext_getElem? fun i => ?_
  rw [List.getElem?_set, arrL_len]
  by_cases hi : i < s.hours
  · rw [arrL_at _ hi, arrL_at _ hi, brought_app, brought, brought]
    by_cases he : h = i
    · subst he
      rw [if_pos rfl, if_pos hi, ofTrip, if_pos rfl, Int.toNat_natCast]
      simp
    · rw [if_neg he, ofTrip, if_neg (by simp; omega)]
      simp
  · rw [List.getElem?_eq_none (l := arrL s T) (by rw [arrL_len]; omega), List.getElem?_eq_none (l := arrL s _) (by rw [arrL_len]; omega), if_neg (by omega)]
theorem zf55 (s : Supply) (T : List (Int × Int)) (h0 : suppE s = 0) (hT : TripGood s T) : Fn Tryz.prog 55 [.ptr (hutOf s) 0, .sl (tripRows T)] (.sl (intRows (arrL s T))) := by
  have h6 := small6 h0
  have hH := h6.hours
  have hTl := hT.len
  have hmk : (s.hours : Int) ≤ 1099511627776 := by omega
  have hrow : ∀ c h : Nat, c < s.carr.length → h < s.hours → _ := fun c h hc hh => ld_row h0 hc hh
  have hrep := intRows_rep s.hours
  refine fn_walk 40 Tryz.call55 Tryz.func55 rfl (by decide) fun J => ?_
  simp (maxSteps := 4000000) only [go_sem, St.start, Tryz.ntmps55, Tryz.results55, hutOf, hutRow]
  repeat (first | refine walkL_seq ?_ | refine walkL_skip ?_ | refine walkL_block ?_ | (refine walkL_region fun K hK => ?_; simp (maxSteps := 4000000) only [go_sem, hmk, hrep, tripRows_len]; refine hK _ ?_; clear hK K) | refine walkL_nil ?_ | refine walkL_ret ?_ | refine walkL_exit ?_ | refine blockA_here ?_ | refine blockA_other rfl ?_ | refine blockA_ret ?_ | refine blockA_normal ?_ | refine thenA_ret ?_ | refine thenA_exit ?_ | refine thenA_normal ?_)
  have hq0 : intRows (List.replicate s.hours 0) = intRows (arrL s (T.take 0)) := by rw [List.take_zero, arrL_nil]
  refine walkL_loopS (fun (i : Nat) => [(15, .d (.i (i : Int)))]) (fun i => [(12, some (.arr 3 1 (intRows (arrL s (T.take i)))))]) (fun i => i ≤ T.length) (fun i => T.length - i) 0 ?_ (Nat.zero_le _) ?_
  · rw [← hq0]
    simp (maxSteps := 4000000) only [go_sem]
    refine weak_of [] ?_ ?_ rfl rfl <;> simp [lessT, lessM, lessB, AV.less]
    all_goals first | done | rfl
  · intro i hi
    have hAl := arrL_len s (T.take i)
    simp (maxSteps := 4000000) only [go_sem]
    repeat (first | refine walkL_seq ?_ | refine walkL_skip ?_ | refine walkL_block ?_ | (refine walkL_region fun K hK => ?_; simp (maxSteps := 4000000) only [go_sem, tripRows_len]; refine hK _ ?_; clear hK K) | refine walkL_nil ?_ | refine walkL_ret ?_ | refine walkL_exit ?_ | refine blockA_here ?_ | refine blockA_other rfl ?_ | refine blockA_ret ?_ | refine blockA_normal ?_ | refine thenA_ret ?_ | refine thenA_exit ?_ | refine thenA_normal ?_)
    refine walkL_cond rfl (fun hb => ?_) (fun hb => ?_)
    · have hlt : i < T.length := by simpa using hb
      have hw : IntKind.i64.wrap ((i : Int) + 1) = ((i + 1 : Nat) : Int) := by rw [wr_small (by omega)]; simp
      obtain ⟨t, ht⟩ : ∃ t, T[i]? = some t := ⟨_, List.getElem?_eq_getElem hlt⟩
      have g1 := tripRows_at ht
      obtain ⟨h, c, rfl, hh, hc⟩ := hT.at' t (List.mem_of_getElem? ht)
      dsimp only at g1
      obtain ⟨r, _, gl, hrl, gr⟩ := hrow c h hc hh
      have hnh : ¬ ((h : Int) < 0) := by omega
      have hncc : ¬ ((c : Int) < 0) := by omega
      have gA := intRows_at (arrL_at (T.take i) hh)
      have br := brought_range h0 (T.take i) h
      have lr := ldAt_range h0 c h
      have htl : (T.take i).length ≤ 192 := by simp; omega
      have hws : IntKind.i64.wrap (brought s (T.take i) h + ldAt s.loads c h) = brought s (T.take i) h + ldAt s.loads c h := wr_small (by omega)
      have su : (intRows (arrL s (T.take i))).set h [.i (brought s (T.take i) h + ldAt s.loads c h)] = intRows (arrL s (T.take (i + 1))) := by
        rw [intRows_set, arrL_add s (T.take i) (c := c) hh, List.take_add_one, ht]
        rfl
      obtain ⟨A, hA⟩ : ∃ A, A = arrL s (T.take i) := ⟨_, rfl⟩
      obtain ⟨b, hbv⟩ : ∃ b, b = brought s (T.take i) h := ⟨_, rfl⟩
      obtain ⟨v, hv⟩ : ∃ v, v = ldAt s.loads c h := ⟨_, rfl⟩
      rw [← hA] at su gA hAl ⊢
      rw [← hbv] at su gA hws
      rw [← hv] at su hws gr
      have hiA : h < A.length := by omega
      repeat (first | refine walkL_seq ?_ | refine walkL_skip ?_ | refine walkL_block ?_ | (refine walkL_region fun K hK => ?_; simp (maxSteps := 4000000) only [go_sem, g1]; refine hK _ ?_; clear hK K) | refine walkL_nil ?_ | refine walkL_ret ?_ | refine walkL_exit ?_ | refine blockA_here ?_ | refine blockA_other rfl ?_ | refine blockA_ret ?_ | refine blockA_normal ?_ | refine thenA_ret ?_ | refine thenA_exit ?_ | refine thenA_normal ?_)
      refine walkL_drawn (by kernel_rfl) (by kernel_rfl) fun K hK => ?_
      simp (maxSteps := 4000000) only [go_sem, gA, hiA, gl, gr, hnh, hncc, hws, su, intRows_len]
      refine ⟨by kernel_rfl, hK _ ?_⟩
      clear hK K
      repeat (first | refine walkL_seq ?_ | refine walkL_skip ?_ | refine walkL_block ?_ | (refine walkL_region fun K hK => ?_; simp (maxSteps := 4000000) only [go_sem, hw]; refine hK _ ?_; clear hK K) | refine walkL_nil ?_ | refine walkL_ret ?_ | refine walkL_exit ?_ | refine blockA_here ?_ | refine blockA_other rfl ?_ | refine blockA_ret ?_ | refine blockA_normal ?_ | refine thenA_ret ?_ | refine thenA_exit ?_ | refine thenA_normal ?_)
      refine ⟨rfl, i + 1, ?_, hlt, by omega⟩
      refine weak_of [] ?_ ?_ rfl rfl <;> simp [lessT, lessM, lessB, AV.less]
      all_goals first | done | rfl
    · have he : i = T.length := by (have : ¬ i < T.length := by simpa using hb); omega
      subst he
      rw [List.take_length]
      repeat (first | refine walkL_seq ?_ | refine walkL_skip ?_ | refine walkL_block ?_ | (refine walkL_region fun K hK => ?_; simp (maxSteps := 4000000) only [go_sem]; refine hK _ ?_; clear hK K) | refine walkL_nil ?_ | refine walkL_ret ?_ | refine walkL_exit ?_ | refine blockA_here ?_ | refine blockA_other rfl ?_ | refine blockA_ret ?_ | refine blockA_normal ?_ | refine thenA_ret ?_ | refine thenA_exit ?_ | refine thenA_normal ?_)
      simp (maxSteps := 4000000) only [go_sem]
end Go.Ab
namespace Go.Ab
open Go.RowKit Go.Proofs
set_option maxHeartbeats 16000000
set_option maxRecDepth 20000
attribute [local irreducible] WalkL Walk
def stockAt (s : Supply) (T : List (Int × Int)) (u : Nat → Int) : Nat → Int
  | 0 => s.stock
  | k + 1 => stockAt s T u k + (brought s T k - u k)
def uAt (U : List Int) (k : Nat) : Int := getI U (k : Int)
theorem stockAt_range {s : Supply} (h0 : suppE s = 0) {T : List (Int × Int)} (hT : TripGood s T) {u : Nat → Int} : ∀ k : Nat, (∀ j < k, 0 ≤ u j ∧ u j ≤ 500) → -(500 * k) ≤ stockAt s T u k ∧ stockAt s T u k ≤ 5000 + 200000 * k
  | 0, _ => by
    have := store_good h0
    rw [stockAt]
    omega
  | k + 1, hu => by
    have ih := stockAt_range h0 hT k (fun j hj => hu j (by omega))
    have b := brought_range h0 T k
    have hl := hT.len
    have := hu k (by omega)
    rw [stockAt]
    omega
def openE6 (s : Supply) (T : List (Int × Int)) : Int := openT6 s (tripsB s T) true
def stocksE (s : Supply) (T : List (Int × Int)) (U : List Int) : Int := if openE6 s T = 0 then (if usesB s U then 0 else 63) else openE6 s T
def stocksL (s : Supply) (T : List (Int × Int)) (U : List Int) : List Int := rowQ (fun k => stockAt s T (uAt U) (k + 1)) s.hours fun _ => true
theorem stocksL_len (s : Supply) (T : List (Int × Int)) (U : List Int) : (stocksL s T U).length = s.hours := rowQ_len _ _ _
theorem openE6_zero {s : Supply} {T : List (Int × Int)} : openE6 s T = 0 ↔ suppE s = 0 ∧ tripsB s T = true := by
  unfold openE6 openT6
  constructor
  · intro h
    split at h
    · rename_i h1
      split at h
      · rename_i h2; exact ⟨h1, h2⟩
      · cases h
    · rename_i h1; exact absurd h h1
  · rintro ⟨h1, h2⟩
    rw [if_pos h1, h2]
    rfl
theorem zf52 (s : Supply) (n : Int) : Fn Tryz.prog 52 [.i n, .ptr s.cells 0] (.bool (!withinB n s.use.lo s.use.hi)) := by
  have h := zf53 n s.use.lo s.use.hi
  refine fn_walk 15 Tryz.call52 Tryz.func52 rfl (by decide) fun J => ?_
  simp (maxSteps := 4000000) only [go_sem, St.start, Tryz.ntmps52, Tryz.results52, Supply.cells]
  repeat (first | refine walkL_seq ?_ | refine walkL_skip ?_ | refine walkL_block ?_ | (refine walkL_region fun K hK => ?_; simp (maxSteps := 4000000) only [go_sem]; (repeat (first | (refine ⟨_, .lent (hf := h) (hd := rfl) (hr := rfl), ?_⟩; simp (maxSteps := 4000000) only [go_sem]) | (refine ⟨_, .given (hf := h) (hd := rfl) (ha := rfl), ?_⟩; simp (maxSteps := 4000000) only [go_sem]))); refine hK _ ?_; clear hK K) | refine walkL_nil ?_ | refine walkL_ret ?_ | refine walkL_exit ?_ | refine blockA_here ?_ | refine blockA_other rfl ?_ | refine blockA_ret ?_ | refine blockA_normal ?_ | refine thenA_ret ?_ | refine thenA_exit ?_ | refine thenA_normal ?_)
  simp (maxSteps := 4000000) only [go_sem]
theorem zf14 (s : Supply) (T : List (Int × Int)) (U : List Int) (hs : SuppSmall s) (hTl : T.length < 2 ^ 30) (hUl : U.length < 2 ^ 30) :
    Fn Tryz.prog 14 [.agg s.cells, .sl (tripRows T), .sl (intRows U)] (.tup [.sl (if stocksE s T U = 0 then intRows (stocksL s T U) else []), .i (stocksE s T U)]) := by
  have h51 := zf51g s T (tripsB s T) true hs fun h0 => zf99 s T h0 hTl
  change Fn Tryz.prog 51 _ (.tup [if openE6 s T = 0 then .ptr (hutOf s) 0 else .nilptr, .i (openE6 s T)]) at h51
  unfold stocksE
  rw [Supply.cells] at h51
  by_cases hz : openE6 s T = 0
  · rw [if_pos hz]
    rw [if_pos hz, hz] at h51
    obtain ⟨h0, hb⟩ := openE6_zero.1 hz
    have hT := trips_good hb
    have h6 := small6 h0
    have hH := h6.hours
    have h55 := zf55 s T h0 hT
    have h54 := zf54 U 52 [.ptr s.cells 0] (fun n => !withinB n s.use.lo s.use.hi) (fun n _ => zf52 s n) (by omega)
    have hub : usesB s U = (!(U.any fun n => !withinB n s.use.lo s.use.hi) && ((U.length : Int) == (s.hours : Int))) := by
      rw [usesB, List.not_any_eq_all_not]
      simp
    rw [Supply.cells] at h54
    have hmk : (s.hours : Int) ≤ 1099511627776 := by omega
    have hrep := intRows_rep s.hours
    cases q1 : ((U.length : Int) != (s.hours : Int))
    · have q1' : U.length = s.hours := by
        have := q1
        simp only [bne_eq_false_iff_eq] at this
        omega
      have q1b : ((U.length : Int) == (s.hours : Int)) = true := by simp [q1']
      cases q2 : U.any fun n => !withinB n s.use.lo s.use.hi
      · have hu1 : usesB s U = true := by rw [hub, q2, q1b]; rfl
        rw [hu1]
        have hur : ∀ j < s.hours, 0 ≤ uAt U j ∧ uAt U j ≤ 500 := by
          intro j hj
          obtain ⟨x, hx⟩ : ∃ x, U[j]? = some x := ⟨_, List.getElem?_eq_getElem (by omega)⟩
          have := List.any_eq_false.1 q2 x (List.mem_of_getElem? hx)
          simp only [Bool.not_eq_true, Bool.not_eq_false'] at this
          have r := within_iff.1 this
          obtain ⟨_, _, _, r4⟩ := store_good h0
          have e : uAt U j = x := by rw [uAt, getI, Int.toNat_natCast, List.getD, hx]; rfl
          omega
        have hsr : ∀ k, k ≤ s.hours → _ := fun k hk => stockAt_range h0 hT (u := uAt U) k (fun j hj => hur j (by omega))
        rw [q2] at h54
        obtain ⟨H, hHd⟩ : ∃ H, H = s.hours := ⟨_, rfl⟩
        have hAl := arrL_len s T
        have hAt := fun h hh => arrL_at (s := s) T (h := h) hh
        obtain ⟨f, hf⟩ : ∃ f : Nat → Int, f = fun k => stockAt s T (uAt U) (k + 1) := ⟨_, rfl⟩
        unfold stocksL
        rw [← hf]
        rw [hutOf, hutRow] at h51 h55
        rw [← hHd] at h51 h55 hmk hrep q1 hAl hAt hur hsr ⊢
        obtain ⟨A, hA⟩ : ∃ A, A = arrL s T := ⟨_, rfl⟩
        rw [← hA] at h55 hAl hAt
        refine fn_walk 68 Tryz.call14 Tryz.func14 rfl (by decide) fun J => ?_
        simp (maxSteps := 4000000) only [go_sem, St.start, Tryz.ntmps14, Tryz.results14, Supply.cells]
        repeat (first | refine walkL_true rfl ?_ | refine walkL_false rfl ?_ | refine walkL_seq ?_ | refine walkL_skip ?_ | refine walkL_block ?_ | (refine walkL_region fun K hK => ?_; simp (maxSteps := 4000000) only [go_sem, intRows_len, hAl, q1, hmk, hrep]; (repeat (first | (refine ⟨_, .lent (hf := h51) (hd := rfl) (hr := rfl), ?_⟩; simp (maxSteps := 4000000) only [go_sem, intRows_len, hAl, q1, hmk, hrep]) | (refine ⟨_, .lent (hf := h54) (hd := rfl) (hr := rfl), ?_⟩; simp (maxSteps := 4000000) only [go_sem, intRows_len, hAl, q1, hmk, hrep]) | (refine ⟨_, .lent (hf := h55) (hd := rfl) (hr := rfl), ?_⟩; simp (maxSteps := 4000000) only [go_sem, intRows_len, hAl, q1, hmk, hrep]) | (refine ⟨_, .given (hf := h51) (hd := rfl) (ha := rfl), ?_⟩; simp (maxSteps := 4000000) only [go_sem, intRows_len, hAl, q1, hmk, hrep]) | (refine ⟨_, .given (hf := h54) (hd := rfl) (ha := rfl), ?_⟩; simp (maxSteps := 4000000) only [go_sem, intRows_len, hAl, q1, hmk, hrep]) | (refine ⟨_, .given (hf := h55) (hd := rfl) (ha := rfl), ?_⟩; simp (maxSteps := 4000000) only [go_sem, intRows_len, hAl, q1, hmk, hrep]))); refine hK _ ?_; clear hK K) | refine walkL_nil ?_ | refine walkL_ret ?_ | refine walkL_exit ?_ | refine blockA_here ?_ | refine blockA_other rfl ?_ | refine blockA_ret ?_ | refine blockA_normal ?_ | refine thenA_ret ?_ | refine thenA_exit ?_ | refine thenA_normal ?_)
        have hq0 : intRows (List.replicate H 0) = intRows (rowQ f H (fun u => decide (u < 0))) := by
          rw [← rowQ_none f H, rowQ_congr (q' := fun u => decide (u < 0)) (fun u _ => by simp)]
        refine walkL_loopS (fun (i : Nat) => [(49, .d (.i (i : Int))), (12, .d (.i (stockAt s T (uAt U) i)))]) (fun i => [(41, some (.arr 3 1 (intRows (rowQ f H (fun u => decide (u < i))))))]) (fun i => i ≤ H) (fun i => H - i) 0 ?_ (Nat.zero_le _) ?_
        · rw [← hq0]
          simp (maxSteps := 4000000) only [go_sem]
          refine weak_of [] ?_ ?_ rfl rfl <;> simp [lessT, lessM, lessB, AV.less]
          all_goals first | done | rfl
        · intro i hi
          have hRl := rowQ_len f H (fun u => decide (u < i))
          simp (maxSteps := 4000000) only [go_sem]
          repeat (first | refine walkL_seq ?_ | refine walkL_skip ?_ | refine walkL_block ?_ | (refine walkL_region fun K hK => ?_; simp (maxSteps := 4000000) only [go_sem, intRows_len, hAl]; refine hK _ ?_; clear hK K) | refine walkL_nil ?_ | refine walkL_ret ?_ | refine walkL_exit ?_ | refine blockA_here ?_ | refine blockA_other rfl ?_ | refine blockA_ret ?_ | refine blockA_normal ?_ | refine thenA_ret ?_ | refine thenA_exit ?_ | refine thenA_normal ?_)
          refine walkL_cond rfl (fun hb => ?_) (fun hb => ?_)
          · have hlt : i < H := by simpa using hb
            have hw : IntKind.i64.wrap ((i : Int) + 1) = ((i + 1 : Nat) : Int) := by rw [wr_small (by omega)]; simp
            have gA := intRows_at (hAt i hlt)
            have gU : (intRows U)[i]? = some [.i (uAt U i)] := by
              obtain ⟨x, hx⟩ : ∃ x, U[i]? = some x := ⟨_, List.getElem?_eq_getElem (by omega)⟩
              rw [intRows_at hx, uAt, getI, Int.toNat_natCast, List.getD, hx]
              rfl
            have br := brought_range h0 T i
            have tl := hT.len
            have ur := hur i hlt
            have sr := hsr i (by omega)
            have e1 : IntKind.i64.wrap (brought s T i - uAt U i) = brought s T i - uAt U i := wr_small (by omega)
            have e2 : IntKind.i64.wrap (stockAt s T (uAt U) i + (brought s T i - uAt U i)) = stockAt s T (uAt U) (i + 1) := by
              rw [wr_small (by omega)]
              rfl
            have su : (intRows (rowQ f H (fun u => decide (u < i)))).set i [.i (stockAt s T (uAt U) (i + 1))] = intRows (rowQ f H (fun u => decide (u < i + 1))) := by
              rw [intRows_set]
              have := rowQ_set f (fun u => decide (u < i)) hlt
              rw [hf] at this ⊢
              rw [this]
              congr 1
              exact rowQ_congr fun u _ => by
                by_cases h1 : u < i
                · simp [h1]; omega
                · by_cases h2 : u = i
                  · simp [h2]
                  · have h3 : ¬ u < i + 1 := by omega
                    simp [h1, h2, h3]
            have gR := intRows_at (rowQ_at f (fun u => decide (u < i)) hlt)
            obtain ⟨R, hR⟩ : ∃ R, R = rowQ f H (fun u => decide (u < i)) := ⟨_, rfl⟩
            rw [← hR] at su hRl gR ⊢
            have hiR : i < R.length := by omega
            have hni : ¬ ((i : Int) < 0) := by omega
            repeat (first | refine walkL_seq ?_ | refine walkL_skip ?_ | refine walkL_block ?_ | (refine walkL_region fun K hK => ?_; simp (maxSteps := 4000000) only [go_sem, gA, gU, gR, hni, e1, e2, hiR, su, intRows_len, hw]; refine hK _ ?_; clear hK K) | refine walkL_nil ?_ | refine walkL_ret ?_ | refine walkL_exit ?_ | refine blockA_here ?_ | refine blockA_other rfl ?_ | refine blockA_ret ?_ | refine blockA_normal ?_ | refine thenA_ret ?_ | refine thenA_exit ?_ | refine thenA_normal ?_)
            refine ⟨rfl, i + 1, ?_, hlt, by omega⟩
            refine weak_of [] ?_ ?_ rfl rfl <;> simp [lessT, lessM, lessB, AV.less]
            all_goals first | done | rfl
          · have he : i = H := by (have : ¬ i < H := by simpa using hb); omega
            subst he
            rw [rowQ_congr (q' := fun _ => true) (fun u hu => by simp [hu])]
            repeat (first | refine walkL_seq ?_ | refine walkL_skip ?_ | refine walkL_block ?_ | (refine walkL_region fun K hK => ?_; simp (maxSteps := 4000000) only [go_sem]; refine hK _ ?_; clear hK K) | refine walkL_nil ?_ | refine walkL_ret ?_ | refine walkL_exit ?_ | refine blockA_here ?_ | refine blockA_other rfl ?_ | refine blockA_ret ?_ | refine blockA_normal ?_ | refine thenA_ret ?_ | refine thenA_exit ?_ | refine thenA_normal ?_)
            simp (maxSteps := 4000000) only [go_sem]
      · have hu1 : usesB s U = false := by rw [hub, q2]; rfl
        rw [hu1]
        rw [q2] at h54
        rw [hutOf, hutRow] at h51
        refine fn_walk 68 Tryz.call14 Tryz.func14 rfl (by decide) fun J => ?_
        simp (maxSteps := 4000000) only [go_sem, St.start, Tryz.ntmps14, Tryz.results14, Supply.cells]
        repeat (first | refine walkL_true rfl ?_ | refine walkL_false rfl ?_ | refine walkL_seq ?_ | refine walkL_skip ?_ | refine walkL_block ?_ | (refine walkL_region fun K hK => ?_; simp (maxSteps := 4000000) only [go_sem, intRows_len, q1]; (repeat (first | (refine ⟨_, .lent (hf := h51) (hd := rfl) (hr := rfl), ?_⟩; simp (maxSteps := 4000000) only [go_sem, intRows_len, q1]) | (refine ⟨_, .lent (hf := h54) (hd := rfl) (hr := rfl), ?_⟩; simp (maxSteps := 4000000) only [go_sem, intRows_len, q1]) | (refine ⟨_, .given (hf := h51) (hd := rfl) (ha := rfl), ?_⟩; simp (maxSteps := 4000000) only [go_sem, intRows_len, q1]) | (refine ⟨_, .given (hf := h54) (hd := rfl) (ha := rfl), ?_⟩; simp (maxSteps := 4000000) only [go_sem, intRows_len, q1]))); refine hK _ ?_; clear hK K) | refine walkL_nil ?_ | refine walkL_ret ?_ | refine walkL_exit ?_ | refine blockA_here ?_ | refine blockA_other rfl ?_ | refine blockA_ret ?_ | refine blockA_normal ?_ | refine thenA_ret ?_ | refine thenA_exit ?_ | refine thenA_normal ?_)
        simp (maxSteps := 4000000) only [go_sem]
    · have hu1 : usesB s U = false := by
        have : ((U.length : Int) == (s.hours : Int)) = false := by simpa using q1
        rw [hub, this, Bool.and_false]
      rw [hu1]
      rw [hutOf, hutRow] at h51
      refine fn_walk 68 Tryz.call14 Tryz.func14 rfl (by decide) fun J => ?_
      simp (maxSteps := 4000000) only [go_sem, St.start, Tryz.ntmps14, Tryz.results14, Supply.cells]
      repeat (first | refine walkL_true rfl ?_ | refine walkL_false rfl ?_ | refine walkL_seq ?_ | refine walkL_skip ?_ | refine walkL_block ?_ | (refine walkL_region fun K hK => ?_; simp (maxSteps := 4000000) only [go_sem, intRows_len, q1]; (repeat (first | (refine ⟨_, .lent (hf := h51) (hd := rfl) (hr := rfl), ?_⟩; simp (maxSteps := 4000000) only [go_sem, intRows_len, q1]) | (refine ⟨_, .given (hf := h51) (hd := rfl) (ha := rfl), ?_⟩; simp (maxSteps := 4000000) only [go_sem, intRows_len, q1]))); refine hK _ ?_; clear hK K) | refine walkL_nil ?_ | refine walkL_ret ?_ | refine walkL_exit ?_ | refine blockA_here ?_ | refine blockA_other rfl ?_ | refine blockA_ret ?_ | refine blockA_normal ?_ | refine thenA_ret ?_ | refine thenA_exit ?_ | refine thenA_normal ?_)
      simp (maxSteps := 4000000) only [go_sem]
  · rw [if_neg hz, if_neg hz]
    rw [if_neg hz] at h51
    have hz2 : (openE6 s T != 0) = true := by simpa using hz
    obtain ⟨e, he⟩ : ∃ e, e = openE6 s T := ⟨_, rfl⟩
    rw [← he] at h51 hz2 ⊢
    refine fn_walk 68 Tryz.call14 Tryz.func14 rfl (by decide) fun J => ?_
    simp (maxSteps := 4000000) only [go_sem, St.start, Tryz.ntmps14, Tryz.results14, Supply.cells]
    repeat (first | refine walkL_true rfl ?_ | refine walkL_false rfl ?_ | refine walkL_seq ?_ | refine walkL_skip ?_ | refine walkL_block ?_ | (refine walkL_region fun K hK => ?_; simp (maxSteps := 4000000) only [go_sem, hz2]; (repeat (first | (refine ⟨_, .lent (hf := h51) (hd := rfl) (hr := rfl), ?_⟩; simp (maxSteps := 4000000) only [go_sem, hz2]) | (refine ⟨_, .given (hf := h51) (hd := rfl) (ha := rfl), ?_⟩; simp (maxSteps := 4000000) only [go_sem, hz2]))); refine hK _ ?_; clear hK K) | refine walkL_nil ?_ | refine walkL_ret ?_ | refine walkL_exit ?_ | refine blockA_here ?_ | refine blockA_other rfl ?_ | refine blockA_ret ?_ | refine blockA_normal ?_ | refine thenA_ret ?_ | refine thenA_exit ?_ | refine thenA_normal ?_)
    simp (maxSteps := 4000000) only [go_sem]
end Go.Ab
namespace Go.Ab
open Go.RowKit Go.Proofs
set_option maxHeartbeats 16000000
set_option maxRecDepth 20000
attribute [local irreducible] WalkL Walk
def kU (u : Int) : Nat → Int := fun _ => u
def lvl (s : Supply) (T : List (Int × Int)) (u : Int) (k : Nat) : Int := stockAt s T (kU u) k
def shortB (s : Supply) (T : List (Int × Int)) (u : Nat → Int) : Nat → Bool
  | 0 => false
  | n + 1 => shortB s T u n || decide (stockAt s T u (n + 1) < s.reserve)
def cntN (s : Supply) (T : List (Int × Int)) (u : Nat → Int) : Nat → Nat
  | 0 => 0
  | n + 1 => if shortB s T u (n + 1) then cntN s T u n else cntN s T u n + 1
def fitsA (s : Supply) (T : List (Int × Int)) (u : Int) : Nat → Bool
  | 0 => true
  | n + 1 => fitsA s T u n && decide (lvl s T u n + brought s T n ≤ s.room)
def cumB (s : Supply) (T : List (Int × Int)) : Nat → Int
  | 0 => 0
  | n + 1 => cumB s T n + brought s T n
def lastsP6 (s : Supply) (T : List (Int × Int)) : Int × Int × Bool × Int := if openE6 s T = 0 then ((cntN s T (kU s.use.hi) s.hours : Int), (cntN s T (kU s.use.lo) s.hours : Int), fitsA s T s.use.lo s.hours, 0) else (0, 0, false, openE6 s T)
end Go.Ab
namespace Go.Ab
open Go.RowKit Go.Proofs
set_option maxHeartbeats 16000000
set_option maxRecDepth 20000
attribute [local irreducible] WalkL Walk
def updI {α : Type} (f : Nat → α → α) (l : List α) (k : Nat) : List α := (l.take k).mapIdx f ++ l.drop k
end Go.Ab
namespace Go.Ab
open Go.RowKit Go.Proofs
set_option maxHeartbeats 4000000
set_option maxRecDepth 20000
def allTo (b : List Bool) (h j : Nat) : Bool := ((b.drop h).take j).all id
end Go.Ab
namespace Go.Ab
open Go.RowKit Go.Proofs
set_option maxHeartbeats 8000000
set_option maxRecDepth 20000
attribute [local irreducible] WalkL Walk
end Go.Ab
namespace Go.Ab
open Go.RowKit Go.Proofs
set_option maxHeartbeats 8000000
set_option maxRecDepth 20000
attribute [local irreducible] WalkL Walk
def mayB (l : Limits) (h : Hour) : Bool := decide (h.wind.lo ≤ l.wind) && (decide (h.rain.lo ≤ l.rain) && (decide (h.temp.lo ≤ l.temp.hi) && decide (h.temp.hi ≥ l.temp.lo)))
end Go.Ab
namespace Go.Ab
open Go.RowKit Go.Proofs
set_option maxHeartbeats 16000000
set_option maxRecDepth 20000
attribute [local irreducible] WalkL Walk
structure Poss (F : List (List Hour)) (seen : List Sight) (l : Limits) (S : List (List Hour)) (N : List Int) (H : Nat) : Prop where
  len : N.length = S.length
  few : S.length ≤ 6
  pos : 0 < S.length
  hours : 1 ≤ H ∧ H ≤ 48
  all : ∀ s ∈ S, s.length = H
  get : ∀ (i : Nat) s, S[i]? = some s → ∃ k, N[i]? = some k ∧ 0 ≤ k ∧ Fn Tryz.prog 114 [.agg [.sl (scenRows F)], .sl (sightRows seen), .i k, .agg l.row] (.tup [.sl (boolRows (s.map (alwaysB l))), .sl (boolRows (s.map (everB l)))])
def rowAll (q : Hour → Bool) (S : List (List Hour)) (H : Nat) : List Bool := (List.range H).map fun (h : Nat) => S.all fun s => q (hourAt s (h : Int))
def rowAny (q : Hour → Bool) (S : List (List Hour)) (H : Nat) : List Bool := (List.range H).map fun (h : Nat) => S.any fun s => q (hourAt s (h : Int))
end Go.Ab
namespace Go.Ab
open Go.RowKit Go.Proofs
set_option maxHeartbeats 16000000
set_option maxRecDepth 20000
attribute [local irreducible] WalkL Walk
end Go.Ab
namespace Go.Ab
open Go.RowKit Go.Proofs
set_option maxHeartbeats 16000000
set_option maxRecDepth 20000
attribute [local irreducible] WalkL Walk
def prevT (T : List (Int × Int)) : Nat → Int × Int
  | 0 => (0, 0)
  | k + 1 => T.getD k (0, 0)
end Go.Ab
namespace Go.Ab
open Go.RowKit Go.Proofs
set_option maxHeartbeats 16000000
set_option maxRecDepth 20000
attribute [local irreducible] WalkL Walk
end Go.Ab
namespace Go.Ab
open Go.RowKit Go.Proofs
def sumU (u : Nat → Int) : Nat → Int
  | 0 => 0
  | n + 1 => sumU u n + u n
theorem stock_cum (s : Supply) (T : List (Int × Int)) (u : Nat → Int) : ∀ k, stockAt s T u k = s.stock + cumB s T k - sumU u k
  | 0 => by simp [stockAt, cumB, sumU]
  | k + 1 => by
    rw [stockAt, cumB, sumU, stock_cum s T u k]
    omega
def total (s : Supply) : List (Int × Int) → Int
  | [] => 0
  | t :: T => ldAt s.loads t.2.toNat t.1.toNat + total s T
theorem brought_tripsTo (s : Supply) (j : Nat) (set : Int) (h : Nat) : ∀ n : Nat, brought s (tripsTo j set n) h = if j = h then sumTo (fun c => if bitB set c then ldAt s.loads c h else 0) n else 0
  | 0 => by simp [tripsTo, brought, sumTo]
  | n + 1 => by
    rw [tripsTo_succ, brought_app, brought_tripsTo s j set h n, sumTo]
    by_cases hb : bitB set n = true
    · rw [if_pos hb, brought, brought, ofTrip]
      dsimp only
      by_cases hj : j = h
      · rw [if_pos hj, if_pos (by omega), if_pos hj, if_pos hb, Int.toNat_natCast]
        omega
      · rw [if_neg hj, if_neg (by omega), if_neg hj]
        omega
    · rw [if_neg hb, brought]
      by_cases hj : j = h
      · rw [if_pos hj, if_pos hj, if_neg hb]
      · rw [if_neg hj, if_neg hj]
        rfl
theorem brought_flat (s : Supply) (F : Nat → Flight) (m h : Nat) : ∀ n : Nat, brought s ((List.range n).flatMap fun j => tripsTo j (F j).set m) h = if h < n then sumTo (fun c => if bitB (F h).set c then ldAt s.loads c h else 0) m else 0
  | 0 => by simp [brought]
  | n + 1 => by
    rw [List.range_succ, List.flatMap_append, brought_app, brought_flat s F m h n]
    simp only [List.flatMap_cons, List.flatMap_nil, List.append_nil]
    rw [brought_tripsTo]
    by_cases h1 : h < n
    · rw [if_pos h1, if_neg (by omega), if_pos (by omega)]; omega
    · by_cases h2 : n = h
      · subst h2
        rw [if_neg h1, if_pos rfl, if_pos (by omega)]; omega
      · rw [if_neg h1, if_neg h2, if_neg (by omega)]; rfl
def ltT (a b : Int × Int) : Prop := a.1 < b.1 ∨ (a.1 = b.1 ∧ a.2 < b.2)
theorem trFrom_of {s : Supply} : ∀ (T : List (Int × Int)) (i : Nat) (p : Int × Int), (∀ t ∈ T, ∃ h c : Nat, t = ((h : Int), (c : Int)) ∧ h < s.hours ∧ c < s.carr.length ∧ ldAt s.loads c h ≠ 0) → T.Pairwise ltT → (i = 0 ∨ ∀ t ∈ T, ltT p t) → trFrom s T i p = true
  | [], _, _, _, _, _ => rfl
  | t :: T, i, p, h, hp, hi => by
    rw [List.pairwise_cons] at hp
    rw [trFrom]
    have hb : trBad s i p t = false := by
      obtain ⟨a, c, rfl, ha, hc, hl⟩ := h t List.mem_cons_self
      have e1 : withinB (a : Int) 0 ((s.hours : Int) - 1) = true := within_iff.2 (by omega)
      have e2 : withinB (c : Int) 0 ((s.carr.length : Int) - 1) = true := within_iff.2 (by omega)
      have e3 : (ldAt s.loads ((c : Int)).toNat ((a : Int)).toNat == 0) = false := by simpa using hl
      have e4 : (decide ((i : Int) > 0) && (decide ((a : Int) < p.1) || ((a : Int) == p.1 && decide ((c : Int) ≤ p.2)))) = false := by
        rcases hi with rfl | hi
        · simp
        · have hlt : ltT p ((a : Int), (c : Int)) := hi ((a : Int), (c : Int)) List.mem_cons_self
          rw [Bool.and_eq_false_iff]
          right
          rcases hlt with h1 | ⟨h1, h2⟩
          · dsimp only at h1
            rw [Bool.or_eq_false_iff, Bool.and_eq_false_iff, decide_eq_false_iff_not]
            exact ⟨by omega, .inl (by simp; omega)⟩
          · dsimp only at h1 h2
            rw [Bool.or_eq_false_iff, Bool.and_eq_false_iff, decide_eq_false_iff_not]
            exact ⟨by omega, .inr (decide_eq_false (by omega))⟩
      rw [trBad]
      dsimp only
      rw [e1, e2, e3, e4]
      rfl
    rw [hb]
    exact trFrom_of T (i + 1) t (fun u hu => h u (List.mem_cons_of_mem _ hu)) hp.2 (.inr fun u hu => hp.1 u hu)
theorem tripsTo_pairwise (h : Nat) (set : Int) (n : Nat) : (tripsTo h set n).Pairwise ltT := by
  rw [tripsTo, List.pairwise_map]
  refine List.Pairwise.imp ?_ (List.Pairwise.filter _ List.pairwise_lt_range)
  intro a b hab
  exact .inr ⟨rfl, by dsimp only; omega⟩
theorem flat_pairwise (F : Nat → Flight) (m n : Nat) : ((List.range n).flatMap fun j => tripsTo j (F j).set m).Pairwise ltT := by
  rw [List.pairwise_flatMap]
  refine ⟨fun j _ => tripsTo_pairwise _ _ _, List.Pairwise.imp ?_ List.pairwise_lt_range⟩
  intro a b hab x hx y hy
  obtain ⟨_, _, _, rfl⟩ := tripsTo_mem.1 hx
  obtain ⟨_, _, _, rfl⟩ := tripsTo_mem.1 hy
  exact .inl (by dsimp only; omega)
theorem plan_good {s : Supply} (h0 : suppE s = 0) {cst : Int} {T : List (Int × Int)} (hp : planS s = (T, cst, 0)) : tripsB s T = true ∧
    ∀ u : Nat → Int, (∀ j < s.hours, s.use.lo ≤ u j ∧ u j ≤ s.use.hi) → ∀ h < s.hours, s.reserve ≤ stockAt s T u (h + 1) ∧ stockAt s T u (h + 1) + u h ≤ s.room := by
  have hH := (small6 h0).hours
  have hin : ∀ t ∈ T, ∃ h c : Nat, t = ((h : Int), (c : Int)) ∧ h < s.hours ∧ c < s.carr.length ∧ ldAt s.loads c h ≠ 0 := fun t ht => plan_trips h0 (by rw [hp]; exact ht)
  have hl : T.length ≤ 192 := by have := plan_len h0; rw [hp] at this; exact this
  rcases planS_spec h0 with ⟨_, he⟩ | ⟨c, F, B, _, hw, hb, he⟩
  · rw [hp] at he; cases he
  · rw [hp] at he
    have hT : T = (List.range s.hours).flatMap fun j => tripsTo j (F j).set s.carr.length := (Prod.mk.inj he).1
    have ok := plan_ok h0 hw hb
    refine ⟨?_, ?_⟩
    · rw [tripsB, Bool.and_eq_true]
      refine ⟨trFrom_of T 0 (0, 0) hin (by rw [hT]; exact flat_pairwise _ _ _) (.inl rfl), decide_eq_true (by omega)⟩
    · have hbr : ∀ h < s.hours, brought s T h = (F h).load := by
        intro h hh
        rw [hT, brought_flat, if_pos hh, (ok.fl h hh).load]
      have hcum : ∀ k ≤ s.hours, cumB s T k = B k := by
        intro k
        induction k with
        | zero => intro _; rw [ok.zero]; rfl
        | succ k ih =>
          intro hk
          rw [cumB, ih (by omega), hbr k (by omega), ok.next k (by omega)]
      intro u hu h hh
      have hs : ∀ k ≤ s.hours, k * s.use.lo ≤ sumU u k ∧ sumU u k ≤ k * s.use.hi := by
        intro k
        induction k with
        | zero => intro _; simp [sumU]
        | succ k ih =>
          intro hk
          have h1 := ih (by omega)
          have h2 := hu k (by omega)
          rw [sumU]
          push_cast
          rw [Int.add_mul, Int.add_mul]
          omega
      have s1 := hs h (by omega)
      have s2 := hs (h + 1) (by omega)
      have k1 := ok.fits h hh
      have k2 := ok.suff h hh
      have e : stockAt s T u (h + 1) = s.stock + B (h + 1) - sumU u (h + 1) := by rw [stock_cum, hcum (h + 1) (by omega)]
      have e2 : sumU u (h + 1) = sumU u h + u h := rfl
      push_cast at s2
      rw [e]
      omega
end Go.Ab
namespace Go.Ab
open Go.RowKit Go.Proofs
set_option maxHeartbeats 16000000
set_option maxRecDepth 20000
attribute [local irreducible] WalkL Walk
def badK (s : Supply) (T : List (Int × Int)) (U : List Int) : Bool := !valid6 s || (decide ((T.length : Int) > 60) || (decide ((U.length : Int) > 100) || (!tripsB s T || !usesB s U)))
theorem uses_in {s : Supply} (h0 : suppE s = 0) {U : List Int} (h : usesB s U = true) : U.length = s.hours ∧ (∀ j < s.hours, (intRows U)[j]? = some [.i (uAt U j)] ∧ s.use.lo ≤ uAt U j ∧ uAt U j ≤ s.use.hi) := by
  rw [usesB, Bool.and_eq_true, List.all_eq_true, beq_iff_eq] at h
  have hl : U.length = s.hours := by omega
  refine ⟨hl, fun j hj => ?_⟩
  obtain ⟨x, hx⟩ : ∃ x, U[j]? = some x := ⟨_, List.getElem?_eq_getElem (by omega)⟩
  have e : uAt U j = x := by rw [uAt, getI, Int.toNat_natCast, List.getD, hx]; rfl
  rw [intRows_at hx, e]
  exact ⟨rfl, within_iff.1 (h.1 x (List.mem_of_getElem? hx))⟩
theorem stocksL_at {s : Supply} (T : List (Int × Int)) (U : List Int) {h : Nat} (hh : h < s.hours) : (intRows (stocksL s T U))[h]? = some [.i (stockAt s T (uAt U) (h + 1))] := by
  rw [intRows_at (x := stockAt s T (uAt U) (h + 1))]
  rw [stocksL, rowQ_at _ _ hh]
  rfl
theorem stocks_ok {s : Supply} {T : List (Int × Int)} {U : List Int} (h1 : openE6 s T = 0) (h2 : usesB s U = true) : stocksE s T U = 0 := by rw [stocksE, if_pos h1, h2]; rfl
end Go.Ab
namespace Go.Ab
open Go.RowKit Go.Proofs
set_option maxHeartbeats 16000000
set_option maxRecDepth 20000
attribute [local irreducible] WalkL Walk
def fuelS (s : Supply) (p : Plant) : Supply := { s with use := ⟨0, p.rate⟩ }
def badF1 (s : Supply) (p : Plant) : Bool := far6 s || (far10 p || plantE p != 0)
def badF2 (s : Supply) : Bool := suppE s != 0 || far6 s
theorem zf8 (s : Supply) (p : Plant) (hs : SuppSmall s) (hp : PlantSmall p) : Fn Tryz.prog 8 [.agg s.cells, .agg p.cells] (.bool true) := by
  have hs' : SuppSmall (fuelS s p) := ⟨hs.fore, hs.seen, hs.carr⟩
  have h11 := zf11 s hs
  have h11' := zf11 (fuelS s p) hs'
  have h29 := zf29 p hp
  have h30 := zf30 p hp
  have h32 := zf32
  have h24 := zf24 (fuelS s p) hs'
  have h35 := zf35 p hp
  have h28 : suppE (fuelS s p) = 0 → _ := fun h => zf28 (fuelS s p) hs' h
  have hcells : (fuelS s p).cells = [.sl (scenRows s.scen), .sl (sightRows s.seen), .i s.stock, .i s.reserve, .i s.room, .i 0, .i p.rate, .sl (carrRows s.carr)] := rfl
  rw [hcells] at h11' h24 h28
  rw [Supply.cells] at h11
  rw [Plant.cells] at h29 h30 h35
  refine fn_walk 134 Tryz.call8 Tryz.func8 rfl (by decide) fun J => ?_
  simp (maxSteps := 4000000) only [go_sem, St.start, Tryz.ntmps8, Tryz.results8, Supply.cells, Plant.cells]
  repeat (first | refine walkL_seq ?_ | refine walkL_skip ?_ | refine walkL_block ?_ | (refine walkL_region fun K hK => ?_; simp (maxSteps := 4000000) only [go_sem]; refine hK _ ?_; clear hK K) | refine walkL_nil ?_ | refine walkL_ret ?_ | refine walkL_exit ?_ | refine blockA_here ?_ | refine blockA_other rfl ?_ | refine blockA_ret ?_ | refine blockA_normal ?_ | refine thenA_ret ?_ | refine thenA_exit ?_ | refine thenA_normal ?_)
  refine walkL_meetS [(26, .d (.bool (badF1 s p)))] [] ?_ ?_
  · refine walkL_region fun K hK => ?_
    simp (maxSteps := 4000000) only [go_sem]
    refine ⟨_, .lent (hf := h11) (hd := rfl) (hr := rfl), ?_⟩
    simp (maxSteps := 4000000) only [go_sem]
    by_cases ho0 : (far6 s) = true
    · simp (maxSteps := 4000000) only [go_sem, ho0]
      refine hK _ ?_
      clear hK K
      refine walkL_nil ?_
      refine thenA_normal ?_
      refine ⟨rfl, ?_⟩
      rw [show (badF1 s p) = (true) from by simp [badF1, ho0]]
      simp (maxSteps := 4000000) only [go_sem]
      refine weak_of [] ?_ ?_ rfl rfl <;> simp [lessT, lessM, lessB, AV.less]
    · simp (maxSteps := 4000000) only [go_sem, ho0]
      refine ⟨_, .lent (hf := h29) (hd := rfl) (hr := rfl), ?_⟩
      simp (maxSteps := 4000000) only [go_sem, ho0]
      by_cases ho1 : (far10 p) = true
      · simp (maxSteps := 4000000) only [go_sem, ho0, ho1]
        refine hK _ ?_
        clear hK K
        refine walkL_nil ?_
        refine thenA_normal ?_
        refine ⟨rfl, ?_⟩
        rw [show (badF1 s p) = (true) from by simp [badF1, ho0, ho1]]
        simp (maxSteps := 4000000) only [go_sem]
        refine weak_of [] ?_ ?_ rfl rfl <;> simp [lessT, lessM, lessB, AV.less]
      · simp (maxSteps := 4000000) only [go_sem, ho0, ho1]
        refine ⟨_, .lent (hf := h30) (hd := rfl) (hr := rfl), ?_⟩
        simp (maxSteps := 4000000) only [go_sem, ho0, ho1]
        refine hK _ ?_
        clear hK K
        refine walkL_nil ?_
        refine thenA_normal ?_
        refine ⟨rfl, ?_⟩
        rw [show (badF1 s p) = (plantE p != 0) from by simp [badF1, ho0, ho1]]
        simp (maxSteps := 4000000) only [go_sem]
        refine weak_of [] ?_ ?_ rfl rfl <;> simp [lessT, lessM, lessB, AV.less]
  simp (maxSteps := 4000000) only [go_sem]
  repeat (first | refine walkL_seq ?_ | refine walkL_skip ?_ | refine walkL_block ?_ | (refine walkL_region fun K hK => ?_; simp (maxSteps := 4000000) only [go_sem]; refine hK _ ?_; clear hK K) | refine walkL_nil ?_ | refine walkL_ret ?_ | refine walkL_exit ?_ | refine blockA_here ?_ | refine blockA_other rfl ?_ | refine blockA_ret ?_ | refine blockA_normal ?_ | refine thenA_ret ?_ | refine thenA_exit ?_ | refine thenA_normal ?_)
  refine walkL_cond rfl (fun hc => ?_) (fun hc => ?_)
  · repeat (first | refine walkL_seq ?_ | refine walkL_skip ?_ | refine walkL_block ?_ | (refine walkL_region fun K hK => ?_; simp (maxSteps := 4000000) only [go_sem]; (repeat (first | (refine ⟨_, .lent (hf := h32) (hd := rfl) (hr := rfl), ?_⟩; simp (maxSteps := 4000000) only [go_sem]) | (refine ⟨_, .given (hf := h32) (hd := rfl) (ha := rfl), ?_⟩; simp (maxSteps := 4000000) only [go_sem]))); refine hK _ ?_; clear hK K) | refine walkL_nil ?_ | refine walkL_ret ?_ | refine walkL_exit ?_ | refine blockA_here ?_ | refine blockA_other rfl ?_ | refine blockA_ret ?_ | refine blockA_normal ?_ | refine thenA_ret ?_ | refine thenA_exit ?_ | refine thenA_normal ?_)
    simp (maxSteps := 4000000) only [go_sem]
  · have hbad := hc
    simp only [badF1, Bool.or_eq_false_iff, bne_eq_false_iff_eq] at hbad
    obtain ⟨b1, b2, b3⟩ := hbad
    have hg := plant_good b3
    repeat (first | refine walkL_seq ?_ | refine walkL_skip ?_ | refine walkL_block ?_ | (refine walkL_region fun K hK => ?_; simp (maxSteps := 4000000) only [go_sem]; refine hK _ ?_; clear hK K) | refine walkL_nil ?_ | refine walkL_ret ?_ | refine walkL_exit ?_ | refine blockA_here ?_ | refine blockA_other rfl ?_ | refine blockA_ret ?_ | refine blockA_normal ?_ | refine thenA_ret ?_ | refine thenA_exit ?_ | refine thenA_normal ?_)
    refine walkL_meetS [(39, .d (.bool (badF2 (fuelS s p))))] [] ?_ ?_
    · refine walkL_region fun K hK => ?_
      simp (maxSteps := 4000000) only [go_sem]
      refine ⟨_, .lent (hf := h24) (hd := rfl) (hr := rfl), ?_⟩
      simp (maxSteps := 4000000) only [go_sem]
      by_cases ho0 : (suppE (fuelS s p) != 0) = true
      · simp (maxSteps := 4000000) only [go_sem, ho0]
        refine hK _ ?_
        clear hK K
        refine walkL_nil ?_
        refine thenA_normal ?_
        refine ⟨rfl, ?_⟩
        rw [show (badF2 (fuelS s p)) = (true) from by simp [badF2, ho0]]
        simp (maxSteps := 4000000) only [go_sem]
        refine weak_of [] ?_ ?_ rfl rfl <;> simp [lessT, lessM, lessB, AV.less]
      · simp (maxSteps := 4000000) only [go_sem, ho0]
        refine ⟨_, .lent (hf := h11') (hd := rfl) (hr := rfl), ?_⟩
        simp (maxSteps := 4000000) only [go_sem, ho0]
        refine hK _ ?_
        clear hK K
        refine walkL_nil ?_
        refine thenA_normal ?_
        refine ⟨rfl, ?_⟩
        rw [show (badF2 (fuelS s p)) = (far6 (fuelS s p)) from by simp [badF2, ho0]]
        simp (maxSteps := 4000000) only [go_sem]
        refine weak_of [] ?_ ?_ rfl rfl <;> simp [lessT, lessM, lessB, AV.less]
    simp (maxSteps := 4000000) only [go_sem]
    repeat (first | refine walkL_seq ?_ | refine walkL_skip ?_ | refine walkL_block ?_ | (refine walkL_region fun K hK => ?_; simp (maxSteps := 4000000) only [go_sem]; refine hK _ ?_; clear hK K) | refine walkL_nil ?_ | refine walkL_ret ?_ | refine walkL_exit ?_ | refine blockA_here ?_ | refine blockA_other rfl ?_ | refine blockA_ret ?_ | refine blockA_normal ?_ | refine thenA_ret ?_ | refine thenA_exit ?_ | refine thenA_normal ?_)
    refine walkL_cond rfl (fun hc => ?_) (fun hc => ?_)
    · repeat (first | refine walkL_seq ?_ | refine walkL_skip ?_ | refine walkL_block ?_ | (refine walkL_region fun K hK => ?_; simp (maxSteps := 4000000) only [go_sem]; (repeat (first | (refine ⟨_, .lent (hf := h32) (hd := rfl) (hr := rfl), ?_⟩; simp (maxSteps := 4000000) only [go_sem]) | (refine ⟨_, .given (hf := h32) (hd := rfl) (ha := rfl), ?_⟩; simp (maxSteps := 4000000) only [go_sem]))); refine hK _ ?_; clear hK K) | refine walkL_nil ?_ | refine walkL_ret ?_ | refine walkL_exit ?_ | refine blockA_here ?_ | refine blockA_other rfl ?_ | refine blockA_ret ?_ | refine blockA_normal ?_ | refine thenA_ret ?_ | refine thenA_exit ?_ | refine thenA_normal ?_)
      simp (maxSteps := 4000000) only [go_sem]
    · rename_i hc2
      have hbad2 := hc
      simp only [badF2, Bool.or_eq_false_iff, bne_eq_false_iff_eq] at hbad2
      obtain ⟨c1, c2⟩ := hbad2
      have h28 := h28 c1
      have pe : (planP p).2.2 = 0 ∨ (planP p).2.2 = 3 := by
        rcases plan_spec hg b3 with ⟨c, u, h, _⟩ | ⟨h, _⟩
        · rw [h]; exact .inl rfl
        · rw [h]; exact .inr rfl
      have se : (planS (fuelS s p)).2.2 = 0 ∨ (planS (fuelS s p)).2.2 = 3 := by
        rcases planS_spec c1 with ⟨_, he⟩ | ⟨c, F, B, _, _, _, he⟩
        · rw [he]; exact .inr rfl
        · rw [he]; exact .inl rfl
      obtain ⟨b, u, e1, hpe⟩ : ∃ b u e1, planP p = (b, u, e1) := ⟨_, _, _, rfl⟩
      obtain ⟨T, cst, e2, hse⟩ : ∃ T cst e2, planS (fuelS s p) = (T, cst, e2) := ⟨_, _, _, rfl⟩
      rw [hpe] at pe h35
      rw [hse] at se h28
      dsimp only at pe se h35 h28
      rcases pe with rfl | rfl
      · rcases se with rfl | rfl
        · -- both
          have hst : Step p b u ∧ LastsAll p b := by
            rcases plan_spec hg b3 with ⟨c, v, h, h1, h2⟩ | ⟨h, _⟩
            · rw [hpe] at h
              have ha := Prod.mk.inj h
              have hv := Prod.mk.inj ha.2
              rw [ha.1, hv.1]
              exact ⟨h1, h2⟩
            · rw [hpe] at h
              have := (Prod.mk.inj (Prod.mk.inj h).2).2
              cases this
          obtain ⟨hstep, hall⟩ := hst
          obtain ⟨pg1, pg2⟩ := plan_good c1 hse
          have hbb := hstep.isBurn
          have hbl := hstep.len
          have hpl : b.length < 2 ^ 30 := by rw [hbl]; exact hp.sun
          have h6 := small6 c1
          have hH := h6.hours
          obtain ⟨hg6, hsi6, hpn6, _⟩ := look_all (supp_look c1)
          have hF := hg6.scen
          have h00 : s.scen[0]? = some (hd0 s.scen) := headD_get (by have : (fuelS s p).scen = s.scen := rfl; rw [this] at hF; omega)
          have g0 := scenRows_at h00
          have hhd : (hd0 s.scen).length = (fuelS s p).hours := rfl
          cases q1 : ((b.length : Int) != ((hd0 s.scen).length : Int))
          · have hbh : b.length = (fuelS s p).hours := by
              simp only [bne_eq_false_iff_eq] at q1
              omega
            have hub : usesB (fuelS s p) b = true := by
              rw [usesB, Bool.and_eq_true, List.all_eq_true, beq_iff_eq]
              refine ⟨fun x hx => within_iff.2 (hstep.rng x hx), by omega⟩
            have hz := openE6_zero.2 ⟨c1, pg1⟩
            have hTl := plan_len c1
            rw [hse] at hTl
            dsimp only at hTl
            have h14 := zf14 (fuelS s p) T b hs' (by omega) hpl
            rw [stocks_ok hz hub, if_pos rfl, hcells] at h14
            have h33 := zf33 p b hp hpl
            have hopen : openE p [b] = 0 := by rw [open_burn b3, hbb]; rfl
            have hlast : (hardF (gridOf p) b).2 = (b.length : Int) := by
              rw [(hard_all hg).2 hall, (grid_lens hg).1, hbl]
            rw [lastsP, if_pos hopen, hlast, Plant.cells] at h33
            dsimp only at h33
            obtain ⟨hul, hua⟩ := uses_in c1 hub
            have pg := pg2 (uAt b) (fun j hj => (hua j hj).2)
            have hstA := fun h hh => stocksL_at (s := fuelS s p) T b (h := h) hh
            have hstL := stocksL_len (fuelS s p) T b
            obtain ⟨st, hst⟩ : ∃ st, st = stocksL (fuelS s p) T b := ⟨_, rfl⟩
            rw [← hst] at h14 hstL
            simp only [← hst] at hstA
            have q2 : ((b.length : Int) != (b.length : Int)) = false := by simp
            have q3 : ((st.length : Int) != (b.length : Int)) = false := by rw [hstL, hbh]; simp
            repeat (first | refine walkL_true rfl ?_ | refine walkL_false rfl ?_ | refine walkL_seq ?_ | refine walkL_skip ?_ | refine walkL_block ?_ | (refine walkL_region fun K hK => ?_; simp (maxSteps := 4000000) only [go_sem, intRows_len, hourRows_len, g0, q1, q2, q3]; (repeat (first | (refine ⟨_, .lent (hf := h35) (hd := rfl) (hr := rfl), ?_⟩; simp (maxSteps := 4000000) only [go_sem, intRows_len, hourRows_len, g0, q1, q2, q3]) | (refine ⟨_, .lent (hf := h28) (hd := rfl) (hr := rfl), ?_⟩; simp (maxSteps := 4000000) only [go_sem, intRows_len, hourRows_len, g0, q1, q2, q3]) | (refine ⟨_, .lent (hf := h14) (hd := rfl) (hr := rfl), ?_⟩; simp (maxSteps := 4000000) only [go_sem, intRows_len, hourRows_len, g0, q1, q2, q3]) | (refine ⟨_, .lent (hf := h33) (hd := rfl) (hr := rfl), ?_⟩; simp (maxSteps := 4000000) only [go_sem, intRows_len, hourRows_len, g0, q1, q2, q3]) | (refine ⟨_, .given (hf := h35) (hd := rfl) (ha := rfl), ?_⟩; simp (maxSteps := 4000000) only [go_sem, intRows_len, hourRows_len, g0, q1, q2, q3]) | (refine ⟨_, .given (hf := h28) (hd := rfl) (ha := rfl), ?_⟩; simp (maxSteps := 4000000) only [go_sem, intRows_len, hourRows_len, g0, q1, q2, q3]) | (refine ⟨_, .given (hf := h14) (hd := rfl) (ha := rfl), ?_⟩; simp (maxSteps := 4000000) only [go_sem, intRows_len, hourRows_len, g0, q1, q2, q3]) | (refine ⟨_, .given (hf := h33) (hd := rfl) (ha := rfl), ?_⟩; simp (maxSteps := 4000000) only [go_sem, intRows_len, hourRows_len, g0, q1, q2, q3]))); refine hK _ ?_; clear hK K) | refine walkL_nil ?_ | refine walkL_ret ?_ | refine walkL_exit ?_ | refine blockA_here ?_ | refine blockA_other rfl ?_ | refine blockA_ret ?_ | refine blockA_normal ?_ | refine thenA_ret ?_ | refine thenA_exit ?_ | refine thenA_normal ?_)
            refine walkL_loopS (fun (i : Nat) => [(15, .d (.i (i : Int)))]) (fun _ => []) (fun i => i ≤ st.length) (fun i => st.length - i) 0 ?_ (Nat.zero_le _) ?_
            · simp (maxSteps := 4000000) only [go_sem]
              refine weak_of [] ?_ ?_ rfl rfl <;> simp [lessT, lessM, lessB, AV.less]
            · intro i hi
              simp (maxSteps := 4000000) only [go_sem]
              repeat (first | refine walkL_seq ?_ | refine walkL_skip ?_ | refine walkL_block ?_ | (refine walkL_region fun K hK => ?_; simp (maxSteps := 4000000) only [go_sem, intRows_len]; refine hK _ ?_; clear hK K) | refine walkL_nil ?_ | refine walkL_ret ?_ | refine walkL_exit ?_ | refine blockA_here ?_ | refine blockA_other rfl ?_ | refine blockA_ret ?_ | refine blockA_normal ?_ | refine thenA_ret ?_ | refine thenA_exit ?_ | refine thenA_normal ?_)
              refine walkL_cond rfl (fun hb => ?_) (fun hb => ?_)
              · have hlt : i < st.length := by simpa using hb
                have hw : IntKind.i64.wrap ((i : Int) + 1) = ((i + 1 : Nat) : Int) := by rw [wr_small (by omega)]; simp
                have gS := hstA i (by omega)
                obtain ⟨p1, p2⟩ := pg i (by omega)
                have hre : (fuelS s p).reserve = s.reserve := rfl
                have hni : ¬ ((i : Int) < 0) := by omega
                have d1 : decide (stockAt (fuelS s p) T (uAt b) (i + 1) < s.reserve) = false := decide_eq_false (by omega)
                repeat (first | refine walkL_seq ?_ | refine walkL_skip ?_ | refine walkL_block ?_ | (refine walkL_region fun K hK => ?_; simp (maxSteps := 4000000) only [go_sem]; refine hK _ ?_; clear hK K) | refine walkL_nil ?_ | refine walkL_ret ?_ | refine walkL_exit ?_ | refine blockA_here ?_ | refine blockA_other rfl ?_ | refine blockA_ret ?_ | refine blockA_normal ?_ | refine thenA_ret ?_ | refine thenA_exit ?_ | refine thenA_normal ?_)
                refine walkL_drawn (by kernel_rfl) (by kernel_rfl) fun K hK => ?_
                simp (maxSteps := 4000000) only [go_sem, gS, hni, d1]
                refine ⟨by kernel_rfl, hK _ ?_⟩
                clear hK K
                repeat (first | refine walkL_true rfl ?_ | refine walkL_false rfl ?_ | refine walkL_seq ?_ | refine walkL_skip ?_ | refine walkL_block ?_ | (refine walkL_region fun K hK => ?_; simp (maxSteps := 4000000) only [go_sem, hw]; refine hK _ ?_; clear hK K) | refine walkL_nil ?_ | refine walkL_ret ?_ | refine walkL_exit ?_ | refine blockA_here ?_ | refine blockA_other rfl ?_ | refine blockA_ret ?_ | refine blockA_normal ?_ | refine thenA_ret ?_ | refine thenA_exit ?_ | refine thenA_normal ?_)
                refine ⟨rfl, i + 1, ?_, hlt, by omega⟩
                refine weak_of [] ?_ ?_ rfl rfl <;> simp [lessT, lessM, lessB, AV.less]
              · repeat (first | refine walkL_seq ?_ | refine walkL_skip ?_ | refine walkL_block ?_ | (refine walkL_region fun K hK => ?_; simp (maxSteps := 4000000) only [go_sem]; (repeat (first | (refine ⟨_, .lent (hf := h32) (hd := rfl) (hr := rfl), ?_⟩; simp (maxSteps := 4000000) only [go_sem]) | (refine ⟨_, .given (hf := h32) (hd := rfl) (ha := rfl), ?_⟩; simp (maxSteps := 4000000) only [go_sem]))); refine hK _ ?_; clear hK K) | refine walkL_nil ?_ | refine walkL_ret ?_ | refine walkL_exit ?_ | refine blockA_here ?_ | refine blockA_other rfl ?_ | refine blockA_ret ?_ | refine blockA_normal ?_ | refine thenA_ret ?_ | refine thenA_exit ?_ | refine thenA_normal ?_)
                simp (maxSteps := 4000000) only [go_sem]
          · repeat (first | refine walkL_true rfl ?_ | refine walkL_false rfl ?_ | refine walkL_seq ?_ | refine walkL_skip ?_ | refine walkL_block ?_ | (refine walkL_region fun K hK => ?_; simp (maxSteps := 4000000) only [go_sem, intRows_len, hourRows_len, g0, q1]; (repeat (first | (refine ⟨_, .lent (hf := h35) (hd := rfl) (hr := rfl), ?_⟩; simp (maxSteps := 4000000) only [go_sem, intRows_len, hourRows_len, g0, q1]) | (refine ⟨_, .lent (hf := h28) (hd := rfl) (hr := rfl), ?_⟩; simp (maxSteps := 4000000) only [go_sem, intRows_len, hourRows_len, g0, q1]) | (refine ⟨_, .lent (hf := h32) (hd := rfl) (hr := rfl), ?_⟩; simp (maxSteps := 4000000) only [go_sem, intRows_len, hourRows_len, g0, q1]) | (refine ⟨_, .given (hf := h35) (hd := rfl) (ha := rfl), ?_⟩; simp (maxSteps := 4000000) only [go_sem, intRows_len, hourRows_len, g0, q1]) | (refine ⟨_, .given (hf := h28) (hd := rfl) (ha := rfl), ?_⟩; simp (maxSteps := 4000000) only [go_sem, intRows_len, hourRows_len, g0, q1]) | (refine ⟨_, .given (hf := h32) (hd := rfl) (ha := rfl), ?_⟩; simp (maxSteps := 4000000) only [go_sem, intRows_len, hourRows_len, g0, q1]))); refine hK _ ?_; clear hK K) | refine walkL_nil ?_ | refine walkL_ret ?_ | refine walkL_exit ?_ | refine blockA_here ?_ | refine blockA_other rfl ?_ | refine blockA_ret ?_ | refine blockA_normal ?_ | refine thenA_ret ?_ | refine thenA_exit ?_ | refine thenA_normal ?_)
            simp (maxSteps := 4000000) only [go_sem]
        · repeat (first | refine walkL_true rfl ?_ | refine walkL_false rfl ?_ | refine walkL_seq ?_ | refine walkL_skip ?_ | refine walkL_block ?_ | (refine walkL_region fun K hK => ?_; simp (maxSteps := 4000000) only [go_sem]; (repeat (first | (refine ⟨_, .lent (hf := h35) (hd := rfl) (hr := rfl), ?_⟩; simp (maxSteps := 4000000) only [go_sem]) | (refine ⟨_, .lent (hf := h28) (hd := rfl) (hr := rfl), ?_⟩; simp (maxSteps := 4000000) only [go_sem]) | (refine ⟨_, .lent (hf := h32) (hd := rfl) (hr := rfl), ?_⟩; simp (maxSteps := 4000000) only [go_sem]) | (refine ⟨_, .given (hf := h35) (hd := rfl) (ha := rfl), ?_⟩; simp (maxSteps := 4000000) only [go_sem]) | (refine ⟨_, .given (hf := h28) (hd := rfl) (ha := rfl), ?_⟩; simp (maxSteps := 4000000) only [go_sem]) | (refine ⟨_, .given (hf := h32) (hd := rfl) (ha := rfl), ?_⟩; simp (maxSteps := 4000000) only [go_sem]))); refine hK _ ?_; clear hK K) | refine walkL_nil ?_ | refine walkL_ret ?_ | refine walkL_exit ?_ | refine blockA_here ?_ | refine blockA_other rfl ?_ | refine blockA_ret ?_ | refine blockA_normal ?_ | refine thenA_ret ?_ | refine thenA_exit ?_ | refine thenA_normal ?_)
          simp (maxSteps := 4000000) only [go_sem]
      · rcases se with rfl | rfl
        · repeat (first | refine walkL_true rfl ?_ | refine walkL_false rfl ?_ | refine walkL_seq ?_ | refine walkL_skip ?_ | refine walkL_block ?_ | (refine walkL_region fun K hK => ?_; simp (maxSteps := 4000000) only [go_sem]; (repeat (first | (refine ⟨_, .lent (hf := h35) (hd := rfl) (hr := rfl), ?_⟩; simp (maxSteps := 4000000) only [go_sem]) | (refine ⟨_, .lent (hf := h28) (hd := rfl) (hr := rfl), ?_⟩; simp (maxSteps := 4000000) only [go_sem]) | (refine ⟨_, .lent (hf := h32) (hd := rfl) (hr := rfl), ?_⟩; simp (maxSteps := 4000000) only [go_sem]) | (refine ⟨_, .given (hf := h35) (hd := rfl) (ha := rfl), ?_⟩; simp (maxSteps := 4000000) only [go_sem]) | (refine ⟨_, .given (hf := h28) (hd := rfl) (ha := rfl), ?_⟩; simp (maxSteps := 4000000) only [go_sem]) | (refine ⟨_, .given (hf := h32) (hd := rfl) (ha := rfl), ?_⟩; simp (maxSteps := 4000000) only [go_sem]))); refine hK _ ?_; clear hK K) | refine walkL_nil ?_ | refine walkL_ret ?_ | refine walkL_exit ?_ | refine blockA_here ?_ | refine blockA_other rfl ?_ | refine blockA_ret ?_ | refine blockA_normal ?_ | refine thenA_ret ?_ | refine thenA_exit ?_ | refine thenA_normal ?_)
          simp (maxSteps := 4000000) only [go_sem]
        · repeat (first | refine walkL_true rfl ?_ | refine walkL_false rfl ?_ | refine walkL_seq ?_ | refine walkL_skip ?_ | refine walkL_block ?_ | (refine walkL_region fun K hK => ?_; simp (maxSteps := 4000000) only [go_sem]; (repeat (first | (refine ⟨_, .lent (hf := h35) (hd := rfl) (hr := rfl), ?_⟩; simp (maxSteps := 4000000) only [go_sem]) | (refine ⟨_, .lent (hf := h28) (hd := rfl) (hr := rfl), ?_⟩; simp (maxSteps := 4000000) only [go_sem]) | (refine ⟨_, .lent (hf := h32) (hd := rfl) (hr := rfl), ?_⟩; simp (maxSteps := 4000000) only [go_sem]) | (refine ⟨_, .given (hf := h35) (hd := rfl) (ha := rfl), ?_⟩; simp (maxSteps := 4000000) only [go_sem]) | (refine ⟨_, .given (hf := h28) (hd := rfl) (ha := rfl), ?_⟩; simp (maxSteps := 4000000) only [go_sem]) | (refine ⟨_, .given (hf := h32) (hd := rfl) (ha := rfl), ?_⟩; simp (maxSteps := 4000000) only [go_sem]))); refine hK _ ?_; clear hK K) | refine walkL_nil ?_ | refine walkL_ret ?_ | refine walkL_exit ?_ | refine blockA_here ?_ | refine blockA_other rfl ?_ | refine blockA_ret ?_ | refine blockA_normal ?_ | refine thenA_ret ?_ | refine thenA_exit ?_ | refine thenA_normal ?_)
          simp (maxSteps := 4000000) only [go_sem]
end Go.Ab
