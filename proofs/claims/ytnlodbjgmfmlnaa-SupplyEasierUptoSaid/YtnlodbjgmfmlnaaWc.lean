/- A walk engine over abstract states, and the contracts of the functions that the statement reaches: part 3. -/
import Derived.Test.YtnlodbjgmfmlnaaWb
import Derived.Test.YtnlodbjgmfmlnaaProg
set_option linter.unusedVariables false
set_option linter.unusedSimpArgs false
set_option linter.unnecessarySimpa false
/- Functions that are handed memory which they may write; a slice over a box; names that move. -/
namespace Go.Ab
open Go.RowKit
def St.startG (m0 : List Blk) (args : List AV) (nt M : Nat) : St :=
  { t := args.map (AV.mapN fun i => some (M + i)) ++ List.replicate (nt - args.length) .undef, m := List.replicate M none ++ m0.map fun b => some (b.mapN fun i => some (M + i)) }
def blksG (s : St) (gs : List Nat) : List Nat → List Blk → Prop
  | [], [] => True
  | n :: ns, b :: bs => (match (s.m[n]? : Option (Option Blk)) with
    | some (some b') => b = b'.mapN (inv gs)
    | _ => False) ∧ blksG s gs ns bs
  | _, _ => False
def isMp (n : Nat) : AV → Bool
  | .mp a => a == n
  | _ => false
def mpPin (i M : Nat) : List AV → List AV → Bool
  | x :: xs, y :: ys => (isMp i x && isMp (M + i) y) || mpPin i M xs ys
  | _, _ => false
theorem isMp_spec {n : Nat} {x : AV} (h : isMp n x = true) : x = .mp n := by
  unfold isMp at h
  split at h
  · simp at h; rw [h]
  · cases h
theorem mpPin_get {i M : Nat} : ∀ {xs ys : List AV}, mpPin i M xs ys = true → ∃ j : Nat, xs[j]? = some (AV.mp i) ∧ ys[j]? = some (AV.mp (M + i))
  | [], ys, h => by cases ys <;> simp [mpPin] at h
  | x :: xs, [], h => by simp [mpPin] at h
  | x :: xs, y :: ys, h => by
    simp only [mpPin, Bool.or_eq_true, Bool.and_eq_true] at h
    rcases h with ⟨h1, h2⟩ | h
    · exact ⟨0, by rw [isMp_spec h1]; rfl, by rw [isMp_spec h2]; rfl⟩
    · obtain ⟨j, h1, h2⟩ := mpPin_get h; exact ⟨j + 1, by simpa using h1, by simpa using h2⟩
def pinG (m0 : List Blk) (args : List AV) (M : Nat) (s : St) : List (Nat × Nat) → Prop
  | [] => True
  | (i, p) :: l => (match args[p]?, (s.t[p]? : Option AV), m0[i]?, (s.m[M + i]? : Option (Option Blk)) with
    | some (.box i' o), some (.box n o'), some (.box _), some (some (.box _)) => i' = i ∧ n = M + i ∧ o = o'
    | some (.own i'), some (.own n), some (.arr _ z _), some (some (.arr _ z' _)) => i' = i ∧ n = M + i ∧ z = z'
    | some (.agg cs), some (.agg cs'), some (.mp _ _ _), some (some (.mp _ _ _)) => mpPin i M cs cs' = true
    | _, _, _, _ => False) ∧ pinG m0 args M s l
def namesG (k M : Nat) (extra : List Nat) : List Nat := (List.range k).map (M + ·) ++ extra
def retG (P : Program) (rs : Array ResultVar) (m0 : List Blk) (args : List AV) (M : Nat) (extra : List Nat) (ps : List (Nat × Nat)) (r : AV) (m1 : List Blk) (ex : Exit) (_ : Option Nat) (s : St) : Prop :=
  endsOk ex ∧ bindK (resultsA P s rs) fun x => r = x.mapN (inv (namesG m0.length M extra)) ∧ blksG s (namesG m0.length M extra) (namesG m0.length M extra) m1 ∧ pinG m0 args M s ps
section
variable {P : Program} {base : Own} {out : Own} {st st' : St} {μ : Pl} {tmps : Array Value} {w w' : World}
theorem blksG_get {s : St} {gs : List Nat} : ∀ {ns : List Nat} {bs : List Blk}, blksG s gs ns bs → ns.length = bs.length ∧ ∀ (i : Nat) b, bs[i]? = some b → ∃ (n : Nat) (b' : Blk), ns[i]? = some n ∧ s.m[n]? = some (some b') ∧ b = b'.mapN (inv gs)
  | [], [], _ => ⟨rfl, fun i b h => by simp at h⟩
  | n :: ns, b :: bs, h => by
    obtain ⟨h1, h2⟩ := h
    obtain ⟨h3, h4⟩ := blksG_get h2
    refine ⟨by simp [h3], fun i b2 hi => ?_⟩
    cases i with
    | zero =>
      simp at hi; subst hi
      split at h1
      · rename_i b' hb'; exact ⟨n, b', rfl, hb', h1⟩
      · exact h1.elim
    | succ i => simpa using h4 i b2 (by simpa using hi)
  | [], _ :: _, h => h.elim
  | _ :: _, [], h => h.elim
theorem startG_rel {own : Own} {m0 : List Blk} {args : List AV} {vs : Array Value} {nt : Nat} {μ0 : Pl} (M : Nat) (hown : ∀ b, own b → base b) (hle : ∀ b, base b → b < w.heap.size) (hM : MemRel base own w μ0 (m0.map some)) (hh : Hid P w (ownOf own μ0))
    (hl : args.length = vs.size) (ha : ∀ (i : Nat) x v, args[i]? = some x → vs[i]? = some v → AVRel w (ownOf own μ0) μ0 x v) :
    StRel P base own (St.startG m0 args nt M) (fun k => if M ≤ k then μ0 (k - M) else none) (vs ++ Array.replicate (nt - vs.size) undef) w := by
  have hsub : ∀ b, ownOf own (fun k => if M ≤ k then μ0 (k - M) else none) b → ownOf own μ0 b := by
    rintro b (h | ⟨n, z, l, c, h⟩)
    · exact .inl h
    · dsimp only at h; split at h
      · exact .inr ⟨_, z, l, c, h⟩
      · cases h
  have hg : Goes w (ownOf own μ0) w (ownOf own (fun k => if M ≤ k then μ0 (k - M) else none)) := fun b o v h1 h2 => ⟨fun hc => h1 (hsub b hc), h2⟩
  have hμ : ∀ n, (μ0 n).isSome → ∀ k, some (M + n) = some k → (fun k => if M ≤ k then μ0 (k - M) else none) k = μ0 n := fun n _ k hk => by cases hk; simp
  refine ⟨by simp [St.startG, hl], fun i x v hx hv => ?_, ⟨fun n b hb => ?_, fun n hn => ?_, fun n k b z l c z' l' c' h1 h2 => ?_, fun n b z l c h => ?_⟩, hh.goes hg, hown, hle⟩
  · by_cases hi : i < args.length
    · rw [St.startG, List.getElem?_append_left (by simpa using hi)] at hx
      rw [Array.getElem?_append_left (by rw [← hl]; exact hi)] at hv
      simp only [List.getElem?_map, Option.map_eq_some_iff] at hx
      obtain ⟨y, hx, rfl⟩ := hx
      exact (ha i y v hx hv).mapN (.inl hg) (fun n _ hs k hk => hμ n hs k hk)
    · rw [St.startG, List.getElem?_append_right (by simpa using Nat.le_of_not_lt hi), List.getElem?_replicate] at hx
      split at hx
      · cases hx; exact .undef v
      · cases hx
  · simp only [St.startG] at hb
    by_cases hi : n < M
    · rw [List.getElem?_append_left (by simpa using hi), List.getElem?_replicate] at hb
      split at hb <;> cases hb
    · rw [List.getElem?_append_right (by simpa using Nat.le_of_not_lt hi)] at hb
      simp only [List.length_replicate, List.getElem?_map, Option.map_eq_some_iff, Option.some.injEq] at hb
      obtain ⟨b0, hb0, rfl⟩ := hb
      exact BlkRel.mapN (n := n - M) (.inl hg) (by simp [Nat.le_of_not_lt hi]) hμ (fun _ _ _ _ _ => rfl) (hM.blk (n - M) b0 (by simp [hb0]))
  · split at hn
    · rename_i h
      obtain ⟨b, hb⟩ := hM.dom (n - M) hn
      simp only [List.getElem?_map, Option.map_eq_some_iff, Option.some.injEq] at hb
      obtain ⟨b0, hb0, rfl⟩ := hb
      exact ⟨b0.mapN fun i => some (M + i), by simp only [St.startG]; rw [List.getElem?_append_right (by simpa using h)]; simp [hb0]⟩
    · cases hn
  · split at h1
    · split at h2
      · have := hM.inj _ _ b _ _ _ _ _ _ h1 h2; omega
      · cases h2
    · cases h1
  · split at h
    · exact hM.base _ b z l c h
    · cases h
theorem pinG_spec {m0 : List Blk} {args : List AV} {M : Nat} {s : St} : ∀ {ps : List (Nat × Nat)}, pinG m0 args M s ps → ∀ i p, (i, p) ∈ ps →
    (∃ o r r', args[p]? = some (.box i o) ∧ s.t[p]? = some (.box (M + i) o) ∧ m0[i]? = some (.box r) ∧ s.m[M + i]? = some (some (.box r'))) ∨
    (∃ e e' z r r', args[p]? = some (.own i) ∧ s.t[p]? = some (.own (M + i)) ∧ m0[i]? = some (.arr e z r) ∧ s.m[M + i]? = some (some (.arr e' z r'))) ∨
    (∃ (cs cs' : List AV) (j : Nat) (kk : Option Nat) (es : List (MK × DV × Nat)) (c : Nat) (kk' : Option Nat) (es' : List (MK × DV × Nat)) (c' : Nat), args[p]? = some (.agg cs) ∧ s.t[p]? = some (.agg cs') ∧ cs[j]? = some (AV.mp i) ∧ cs'[j]? = some (AV.mp (M + i)) ∧ m0[i]? = some (.mp kk es c) ∧ s.m[M + i]? = some (some (.mp kk' es' c')))
  | [], _, i, p, h => by cases h
  | (j, q) :: l, h, i, p, hm => by
    obtain ⟨h1, h2⟩ := h
    rcases List.mem_cons.1 hm with e | hm
    · cases e
      split at h1
      · rename_i i' o n o' r r' e1 e2 e3 e4
        obtain ⟨rfl, rfl, rfl⟩ := h1
        exact .inl ⟨_, _, _, e1, e2, e3, e4⟩
      · rename_i e1 e2 e3 e4
        obtain ⟨rfl, rfl, rfl⟩ := h1
        exact .inr (.inl ⟨_, _, _, _, _, e1, e2, e3, e4⟩)
      · rename_i e1 e2 e3 e4
        obtain ⟨j, h3, h4⟩ := mpPin_get h1
        exact .inr (.inr ⟨_, _, j, _, _, _, _, _, _, e1, e2, h3, h4, e3, e4⟩)
      · exact h1.elim
    · exact pinG_spec h2 i p hm
theorem fnG_walk {f : FuncId} {fn : Func} {c : Code} {m0 m1 : List Blk} {args : List AV} {r : AV} (M : Nat) (he : ∀ args w, (callFunc f args).run P w = .ok (.enter f args) w) (hf : P.funcs[f]? = some fn) (hb : fn.body = some c) (h4 : fn.results.size ≤ 4)
    (extra : List Nat) (ps : List (Nat × Nat)) (hnd : (namesG m0.length M extra).Nodup) (hD : ps.all (fun q => !(dsts c).contains q.2) = true)
    (hw : ∀ J, WalkL P none 0 J [c] (some 0) (St.startG m0 args fn.ntmps M) (retG P fn.results m0 args M extra ps r m1)) : FnG P f m0 (ps.map (·.1)) args r m1 := by
  refine ⟨he, fun base w own μ0 vs hown hle hM hh hl ha => ?_⟩
  have hst0 := startG_rel (nt := fn.ntmps) M hown hle hM hh hl ha
  obtain ⟨μs, hμs⟩ : ∃ μs : Pl, μs = fun k => if M ≤ k then μ0 (k - M) else none := ⟨_, rfl⟩
  rw [← hμs] at hst0
  have hs0 : ∀ b, ownOf own μs b ↔ ownOf own μ0 b := by
    intro b
    rw [hμs]
    constructor
    · rintro (h | ⟨n, z, l, c, h⟩)
      · exact .inl h
      · dsimp only at h; split at h
        · exact .inr ⟨_, z, l, c, h⟩
        · cases h
    · rintro (h | ⟨n, z, l, c, h⟩)
      · exact .inl h
      · exact .inr ⟨M + n, z, l, c, by simp [h]⟩
  refine calls_of_walkSt hf hb h4 hst0 (walkL_one (hw fun _ b o w' => b = base ∧ o = own ∧ BelowU base w w')) (fun k b o w1 w2 q hq _ ho ⟨h1, h2, h3⟩ => ⟨h1, h2, h3.trans (ho.wrote.below (fun hc => by have := hle q hc; omega))⟩) (fun w' hB => ⟨rfl, rfl, hB⟩) ?_
  rintro e k s ⟨hend, x, hx, hr, hblk, hpin⟩
  refine ⟨hend, x, hx, ?_⟩
  rintro b o μ tmps v w' hst hv ⟨rfl, rfl, hB⟩ hstay hsame
  obtain ⟨gs, hgs⟩ : ∃ gs, gs = namesG m0.length M extra := ⟨_, rfl⟩
  rw [← hgs] at hr hblk hnd
  obtain ⟨hlg, hget⟩ := blksG_get hblk
  obtain ⟨μ1, hμ1⟩ : ∃ μ1 : Pl, μ1 = fun i => (gs[i]?).bind μ := ⟨_, rfl⟩
  have h1s : ∀ i L, μ1 i = some L → ∃ n, gs[i]? = some n ∧ μ n = some L := fun i L hi => by
    rw [hμ1] at hi
    cases hn : gs[i]? with
    | none => simp [hn] at hi
    | some n => simp [hn] at hi; exact ⟨n, rfl, hi⟩
  have h1i : ∀ i n, gs[i]? = some n → μ1 i = μ n := fun i n hi => by rw [hμ1]; simp [hi]
  have hsub : ∀ q, ownOf o μ1 q → ownOf o μ q := by
    rintro q (h | ⟨i, z, l, c, h⟩)
    · exact .inl h
    · obtain ⟨n, _, hn⟩ := h1s i _ h; exact .inr ⟨n, z, l, c, hn⟩
  have hg : Goes w' (ownOf o μ) w' (ownOf o μ1) := fun q o' u h1 h2 => ⟨fun hc => h1 (hsub q hc), h2⟩
  have hinv : ∀ n, (μ n).isSome → ∀ i, inv gs n = some i → μ1 i = μ n := fun n _ i hi => h1i i n (inv_spec hi)
  refine ⟨v, μ1, rfl, by rw [hr]; exact hv.mapN (.inl hg) (fun n _ hs k hk => hinv n hs k hk), ⟨fun i b1 hi => ?_, fun i hi => ?_, fun a k q z l c z' l' c' q1 q2 => ?_, fun i q z l c hi => ?_⟩, ⟨⟨hB, fun q ob hq hno hnoM => ?_⟩, fun q hq hno => ?_⟩, fun i hi => ?_⟩
  · simp only [List.getElem?_map, Option.map_eq_some_iff, Option.some.injEq] at hi
    obtain ⟨b2, hi, rfl⟩ := hi
    obtain ⟨n, b', e1, e2, rfl⟩ := hget i b2 hi
    exact BlkRel.mapN (.inl hg) (h1i i n e1) hinv (fun _ _ _ _ _ => rfl) (hst.mem.blk n b' e2)
  · obtain ⟨L, hL⟩ := Option.isSome_iff_exists.1 hi
    obtain ⟨n, hn, _⟩ := h1s i L hL
    have : i < m1.length := by rw [← hlg]; exact (List.getElem?_eq_some_iff.1 hn).1
    exact ⟨m1[i], by simp [this]⟩
  · obtain ⟨n, hn, e1⟩ := h1s a _ q1
    obtain ⟨n', hn', e2⟩ := h1s k _ q2
    have := hst.mem.inj n n' q _ _ _ _ _ _ e1 e2
    subst this
    exact nodup_get hnd hn hn'
  · obtain ⟨n, _, e1⟩ := h1s i _ hi
    exact hst.mem.base n q z l c e1
  · by_cases hob : ownOf o μ0 q
    · rcases hob with hob | ⟨i, z, l, c, hob⟩
      · rw [hB.block q (hown q hob)]; exact hq
      · exfalso
        obtain ⟨b1, hb1⟩ := hM.dom i (by simp [hob])
        have hbr := hM.blk i b1 hb1
        cases b1 with
        | box row => obtain ⟨b', cs, ty, e1, e2, _⟩ := hbr; rw [hob] at e1; cases e1; rw [hq] at e2; cases e2; exact hno _ _ _ rfl
        | arr e z rows =>
          rcases hbr with ⟨e1, _⟩ | ⟨b', cap, cs, e1, e2, _⟩
          · rw [hob] at e1; cases e1
          · rw [hob] at e1; cases e1; rw [hq] at e2; cases e2; exact hno _ _ _ rfl
        | arrP e z rows => obtain ⟨b', cap, cs, e1, e2, _⟩ := hbr; rw [hob] at e1; cases e1; rw [hq] at e2; cases e2; exact hno _ _ _ rfl
        | mp kk es clock => obtain ⟨b', mes, e1, e2, _⟩ := hbr; rw [hob] at e1; cases e1; rw [hq] at e2; cases e2; exact hnoM _ _ rfl
    · rw [(hstay.2 q (Array.getElem?_eq_some_iff.1 hq).1 (fun hc => hob ((hs0 q).1 hc))).1]; exact hq
  · obtain ⟨e1, e2⟩ := hstay.2 q hq (fun hc => hno ((hs0 q).1 hc))
    exact ⟨e1, fun hc => e2 (hsub q hc)⟩
  · obtain ⟨⟨i', p⟩, hm, rfl⟩ := List.mem_map.1 hi
    have hpD : p ∉ dsts c := by
      have := List.all_eq_true.1 hD _ hm
      simpa using this
    have hgi : ∀ i, i < m0.length → gs[i]? = some (M + i) := fun i hi => by
      rw [hgs, namesG, List.getElem?_append_left (by simpa using hi)]; simp [hi]
    rcases pinG_spec hpin i' p hm with ⟨o1, r1, r2, e1, e2, e3, e4⟩ | ⟨e0, e0', z, r1, r2, e1, e2, e3, e4⟩ | ⟨cs, cs', j, kk, es, c0, kk', es', c0', e1, e2, g1, g2, e3, e4⟩
    · have hplt : p < vs.size := by rw [← hl]; exact (List.getElem?_eq_some_iff.1 e1).1
      have hvp : vs[p]? = some vs[p] := by simp [hplt]
      obtain ⟨b1, z1, l1, c1, f1, f2⟩ := inv_box (ha p _ _ e1 hvp)
      have htp : tmps[p]? = some vs[p] := by rw [hsame.2 p hpD, Array.getElem?_append_left hplt, hvp]
      obtain ⟨b2, z2, l2, c2, f3, f4⟩ := inv_box (hst.tmp p _ _ e2 htp)
      rw [f2] at f4
      simp only [Value.pointer.injEq, Option.some.injEq, Addr.mk.injEq] at f4
      obtain ⟨b3, cs, ty, f5, _⟩ := (hM.blk i' (.box r1) (by simp [e3]) : ∃ b cs ty, _)
      obtain ⟨b4, cs', ty', f6, _⟩ := hst.mem.blk (M + i') _ e4
      rw [h1i i' (M + i') (hgi i' (List.getElem?_eq_some_iff.1 e3).1), f3, f1]
      rw [f1] at f5; cases f5
      rw [f3] at f6; cases f6
      rw [f4.1]
    · have hplt : p < vs.size := by rw [← hl]; exact (List.getElem?_eq_some_iff.1 e1).1
      have hvp : vs[p]? = some vs[p] := by simp [hplt]
      have htp : tmps[p]? = some vs[p] := by rw [hsame.2 p hpD, Array.getElem?_append_left hplt, hvp]
      have hA := inv_own (ha p _ _ e1 hvp)
      have hB' := inv_own (hst.tmp p _ _ e2 htp)
      rw [h1i i' (M + i') (hgi i' (List.getElem?_eq_some_iff.1 e3).1)]
      have hb1 := hM.blk i' (.arr e0 z r1) (by simp [e3])
      have hb2 := hst.mem.blk (M + i') _ e4
      rcases hA with ⟨f1, f2⟩ | ⟨b1, z1, l1, c1, f1, f2⟩
      · rcases hB' with ⟨f3, _⟩ | ⟨b2, z2, l2, c2, f3, f4⟩
        · rw [f1, f3]
        · rw [f2] at f4; cases f4
      · rcases hB' with ⟨f3, f4⟩ | ⟨b2, z2, l2, c2, f3, f4⟩
        · rw [f2] at f4; cases f4
        · rw [f2] at f4
          cases f4
          rcases hb1 with ⟨g1, _⟩ | ⟨_, _, _, g1, _⟩
          · rw [f1] at g1; cases g1
          · rcases hb2 with ⟨g2, _⟩ | ⟨_, _, _, g2, _⟩
            · rw [f3] at g2; cases g2
            · rw [f1] at g1
              rw [f3] at g2
              simp only [Option.some.injEq, Loc.at.injEq] at g1 g2
              rw [f1, f3, g1.2.1, g2.2.1]
    · have hplt : p < vs.size := by rw [← hl]; exact (List.getElem?_eq_some_iff.1 e1).1
      have hvp : vs[p]? = some vs[p] := by simp [hplt]
      have htp : tmps[p]? = some vs[p] := by rw [hsame.2 p hpD, Array.getElem?_append_left hplt, hvp]
      obtain ⟨us, f1, f2, f3⟩ := inv_agg (ha p _ _ e1 hvp)
      obtain ⟨us', f1', f2', f3'⟩ := inv_agg (hst.tmp p _ _ e2 htp)
      rw [f1] at f1'
      cases f1'
      have hjl : j < us.size := by rw [← f2]; exact (List.getElem?_eq_some_iff.1 g1).1
      obtain ⟨b1, q1, q2⟩ := inv_mp (f3 j _ _ g1 (Array.getElem?_eq_getElem hjl))
      obtain ⟨b2, q3, q4⟩ := inv_mp (f3' j _ _ g2 (Array.getElem?_eq_getElem hjl))
      rw [q2] at q4
      cases q4
      rw [h1i i' (M + i') (hgi i' (List.getElem?_eq_some_iff.1 e3).1), q1, q3]
end
end Go.Ab
/- Names that move; a slice as a box that it lies over. -/
namespace Go.Ab
open Go.RowKit
def mv (a b : Nat) (k : Nat) : Option Nat := if k = a then some b else some k
def St.move (a : Nat) (st : St) : St := match (st.m[a]? : Option (Option Blk)) with
  | some (some b) => { t := st.t.map (AV.mapN (mv a st.m.length)), m := (st.m.map (Option.map (Blk.mapN (mv a st.m.length)))).set a none ++ [some (b.mapN (mv a st.m.length))] }
  | _ => st
def boxed (len : Nat) : AV → AV
  | .own n => .bsl n len
  | .elem n i o => .box n (i + o)
  | _ => .undef
def rowOne : List DV → AV
  | [d] => .d d
  | _ => .undef
def St.boxes (n : Nat) (st : St) : St := match (st.m[n]? : Option (Option Blk)) with
  | some (some (.arr _ 1 (r :: rows))) => { t := st.t.map (AV.sub n (boxed (r :: rows).length)), m := (subMem n (boxed (r :: rows).length) st.m).set n (some (.box ((r :: rows).map rowOne))) }
  | _ => st
section
variable {P : Program} {base : Own} {out : Own} {st st' : St} {μ : Pl} {tmps : Array Value} {w w' : World}
end
theorem walkL_meetS {P : Program} {rd : Option Nat} {n : Nat} {J : Env} {c c2 : Code} {cs : List Code} {k : Option Nat} {st : St} {Q : Exit → Option Nat → St → Prop} (ts : List (Nat × AV)) (ms : List (Nat × Option Blk))
    (h : WalkL P rd n J [c] k st (thenA (fun k' s => k' = k ∧ Weak s (st.head (dsts c) ts ms)) Q)) (h' : WalkL P rd n J (c2 :: cs) k (st.head (dsts c) ts ms) Q) : WalkL P rd n J (c :: c2 :: cs) k st Q :=
  walk_mono (walkL_one h) fun e k' s hq => by
    cases e <;> first | exact hq | skip
    obtain ⟨rfl, hw⟩ := hq
    exact walkL_weak hw h'
def St.headT (L : Nat) (st : St) (ds : List Nat) (ts : List (Nat × AV)) (ms : List (Nat × Option Blk)) (tl : List (Option Blk)) : St := { t := setsT ts (wipeT ds st.t), m := setsM ms (wipeM ds (st.m.take L)) ++ tl }
def argsG (st : St) (ns rd : List Nat) : List AV → List AV → Prop
  | x :: xs, y :: ys => argG st ns rd x y ∧ argsG st ns rd xs ys
  | _, _ => True
theorem argG_ren {st : St} {ns rd : List Nat} {x y : AV} (h : y = x.mapN (inv ns)) : argG st ns rd x y := .inr h
theorem argG_deep {st : St} {ns rd : List Nat} {x : AV} {d : DV} (h : reify st.m deep x = some d) (hr : x.refs.all (fun n => rd.contains n) = true) : argG st ns rd x (.d d) :=
  .inl ⟨d, rfl, h, fun n hn => by simpa using List.all_eq_true.1 hr n hn⟩
theorem argG_all {st : St} {ns rd : List Nat} : ∀ {xs ys : List AV}, argsG st ns rd xs ys → ∀ (i : Nat) x y, xs[i]? = some x → ys[i]? = some y → argG st ns rd x y
  | [], _, _, i, x, y, h, _ => by simp at h
  | _ :: _, [], _, i, x, y, _, h => by simp at h
  | x0 :: xs, y0 :: ys, h, i, x, y, h1, h2 => by
    cases i with
    | zero => simp at h1 h2; subst h1; subst h2; exact h.1
    | succ i => simp at h1 h2; exact argG_all h.2 i x y h1 h2
theorem mv_eq (a b k : Nat) : mv a b k = some (bif k == a then b else k) := by
  unfold mv
  by_cases h : k = a
  · simp [h]
  · rw [if_neg h, show (k == a) = false by simpa using h]; rfl
attribute [go_sem] isMp mpPin St.headT St.move St.boxes boxed rowOne AV.mapN AV.mapN.AV.mapNs Blk.mapN St.startG retG blksG pinG namesG inv kp St.keep putM mv_eq AV.flatA AV.flatA.AV.flatAs Blk.flatB
attribute [go_sem] Bool.true_or Bool.or_true Bool.false_or Bool.or_false if_true if_false ite_true ite_false Option.map_some Option.map_none Option.bind_some Option.isNone_none Option.isNone_some Option.getD_some Option.some.injEq Prod.mk.injEq List.length_cons List.length_nil List.map_cons List.map_nil List.drop_succ_cons List.take_succ_cons List.drop_zero List.take_zero
attribute [go_sem] List.cons_append List.nil_append List.append_nil and_true true_and Bool.false_eq_true decide_true decide_false Bool.not_true Bool.not_false Bool.and_true Bool.and_false Bool.true_and Bool.false_and beq_self_eq_true Nat.zero_add Nat.le_refl List.all_cons List.all_nil List.any_cons List.any_nil decide_eq_true_eq decide_eq_false_iff_not Bool.and_eq_true
attribute [go_sem] Option.toList_some Option.toList_none cond_true cond_false List.flatMap_cons List.flatMap_nil List.reverse_cons List.reverse_nil List.replicate_succ List.replicate_zero List.length_map List.length_append List.length_replicate List.range_zero List.contains_nil List.size_toArray false_or or_false true_or or_true bool_beq
attribute [go_sem] Nat.reduceAdd Nat.reduceSub Nat.reduceMul Nat.reducePow Int.reducePow Int.cast_ofNat_Int Nat.reduceLeDiff Nat.reduceEqDiff Nat.reduceLT Nat.reduceBEq Int.reduceBEq Int.reduceBNe Int.reduceEq Int.reduceLE Int.reduceLT Int.reduceNeg Int.reduceToNat reduceIte reduceCtorEq
end Go.Ab
/- Drawn regions in which something is appended: what named the array before is forgotten. -/
namespace Go.Ab
open Go.RowKit
def AV.whole : AV → Bool
  | .undef => false
  | .agg cs | .tup cs | .fn _ cs => AV.wholes cs
  | _ => true
where AV.wholes : List AV → Bool
  | [] => true
  | x :: xs => x.whole && AV.wholes xs
def AV.lose (n : Nat) (x : AV) : AV := x.sub n fun _ => .undef
mutual
theorem lose_same (n : Nat) : ∀ (x : AV), n ∉ x.refs → x.sub n (fun _ => .undef) = x
  | .box k o, h => by simp only [AV.refs, List.mem_singleton] at h; simp only [AV.sub]; rw [if_neg (fun e => h e.symm)]
  | .elem k i o, h => by simp only [AV.refs, List.mem_singleton] at h; simp only [AV.sub]; rw [if_neg (fun e => h e.symm)]
  | .own k, h => by simp only [AV.refs, List.mem_singleton] at h; simp only [AV.sub]; rw [if_neg (fun e => h e.symm)]
  | .view k o l, h => by simp only [AV.refs, List.mem_singleton] at h; simp only [AV.sub]; rw [if_neg (fun e => h e.symm)]
  | .bsl k l, h => by simp only [AV.refs, List.mem_singleton] at h; simp only [AV.sub]; rw [if_neg (fun e => h e.symm)]
  | .mp k, h => by simp only [AV.refs, List.mem_singleton] at h; simp only [AV.sub]; rw [if_neg (fun e => h e.symm)]
  | .vh k l, h => by simp only [AV.refs, List.mem_singleton] at h; simp only [AV.sub]; rw [if_neg (fun e => h e.symm)]
  | .vc k l, h => by simp only [AV.refs, List.mem_singleton] at h; simp only [AV.sub]; rw [if_neg (fun e => h e.symm)]
  | .agg cs, h => by simp only [AV.sub]; rw [loses_same n cs (by simpa [AV.refs] using h)]
  | .tup cs, h => by simp only [AV.sub]; rw [loses_same n cs (by simpa [AV.refs] using h)]
  | .fn f cs, h => by simp only [AV.sub]; rw [loses_same n cs (by simpa [AV.refs] using h)]
  | .undef, _ => rfl
  | .void, _ => rfl
  | .d _, _ => rfl
  | .nil, _ => rfl
  | .dfull _, _ => rfl
theorem loses_same (n : Nat) : ∀ (l : List AV), n ∉ AV.refs.AV.refss l → AV.sub.AV.subs n (fun _ => .undef) l = l
  | [], _ => rfl
  | x :: xs, h => by
    simp only [AV.refs.AV.refss, List.mem_append, not_or] at h
    simp only [AV.sub.AV.subs]
    rw [lose_same n x h.1, loses_same n xs h.2]
end
mutual
theorem lose_whole (n : Nat) : ∀ (x : AV), (x.sub n (fun _ => .undef)).whole = true → n ∉ x.refs
  | .box k o, h => by
    simp only [AV.sub] at h
    split at h
    · simp [AV.whole] at h
    · rename_i hk; simp only [AV.refs, List.mem_singleton]; exact fun e => hk e.symm
  | .elem k i o, h => by
    simp only [AV.sub] at h
    split at h
    · simp [AV.whole] at h
    · rename_i hk; simp only [AV.refs, List.mem_singleton]; exact fun e => hk e.symm
  | .own k, h => by
    simp only [AV.sub] at h
    split at h
    · simp [AV.whole] at h
    · rename_i hk; simp only [AV.refs, List.mem_singleton]; exact fun e => hk e.symm
  | .view k o l, h => by
    simp only [AV.sub] at h
    split at h
    · simp [AV.whole] at h
    · rename_i hk; simp only [AV.refs, List.mem_singleton]; exact fun e => hk e.symm
  | .bsl k l, h => by
    simp only [AV.sub] at h
    split at h
    · simp [AV.whole] at h
    · rename_i hk; simp only [AV.refs, List.mem_singleton]; exact fun e => hk e.symm
  | .mp k, h => by
    simp only [AV.sub] at h
    split at h
    · simp [AV.whole] at h
    · rename_i hk; simp only [AV.refs, List.mem_singleton]; exact fun e => hk e.symm
  | .vh k l, h => by
    simp only [AV.sub] at h
    split at h
    · simp [AV.whole] at h
    · rename_i hk; simp only [AV.refs, List.mem_singleton]; exact fun e => hk e.symm
  | .vc k l, h => by
    simp only [AV.sub] at h
    split at h
    · simp [AV.whole] at h
    · rename_i hk; simp only [AV.refs, List.mem_singleton]; exact fun e => hk e.symm
  | .dfull _, _ => by simp [AV.refs]
  | .agg cs, h => by simp only [AV.refs]; exact loses_whole n cs (by simpa [AV.sub, AV.whole] using h)
  | .tup cs, h => by simp only [AV.refs]; exact loses_whole n cs (by simpa [AV.sub, AV.whole] using h)
  | .fn f cs, h => by simp only [AV.refs]; exact loses_whole n cs (by simpa [AV.sub, AV.whole] using h)
  | .undef, _ => by simp [AV.refs]
  | .void, _ => by simp [AV.refs]
  | .d _, _ => by simp [AV.refs]
  | .nil, _ => by simp [AV.refs]
theorem loses_whole (n : Nat) : ∀ (l : List AV), AV.whole.AV.wholes (AV.sub.AV.subs n (fun _ => .undef) l) = true → n ∉ AV.refs.AV.refss l
  | [], _ => by simp [AV.refs.AV.refss]
  | x :: xs, h => by
    simp only [AV.sub.AV.subs, AV.whole.AV.wholes, Bool.and_eq_true] at h
    simp only [AV.refs.AV.refss, List.mem_append, not_or]
    exact ⟨lose_whole n x h.1, loses_whole n xs h.2⟩
end
mutual
theorem sub_same (n : Nat) (f : AV → AV) : ∀ (x : AV), n ∉ x.refs → x.sub n f = x
  | .box k o, h => by simp only [AV.refs, List.mem_singleton] at h; simp only [AV.sub]; rw [if_neg (fun e => h e.symm)]
  | .elem k i o, h => by simp only [AV.refs, List.mem_singleton] at h; simp only [AV.sub]; rw [if_neg (fun e => h e.symm)]
  | .own k, h => by simp only [AV.refs, List.mem_singleton] at h; simp only [AV.sub]; rw [if_neg (fun e => h e.symm)]
  | .view k o l, h => by simp only [AV.refs, List.mem_singleton] at h; simp only [AV.sub]; rw [if_neg (fun e => h e.symm)]
  | .bsl k l, h => by simp only [AV.refs, List.mem_singleton] at h; simp only [AV.sub]; rw [if_neg (fun e => h e.symm)]
  | .mp k, h => by simp only [AV.refs, List.mem_singleton] at h; simp only [AV.sub]; rw [if_neg (fun e => h e.symm)]
  | .vh k l, h => by simp only [AV.refs, List.mem_singleton] at h; simp only [AV.sub]; rw [if_neg (fun e => h e.symm)]
  | .vc k l, h => by simp only [AV.refs, List.mem_singleton] at h; simp only [AV.sub]; rw [if_neg (fun e => h e.symm)]
  | .agg cs, h => by simp only [AV.sub]; rw [subs_same n f cs (by simpa [AV.refs] using h)]
  | .tup cs, h => by simp only [AV.sub]; rw [subs_same n f cs (by simpa [AV.refs] using h)]
  | .fn g cs, h => by simp only [AV.sub]; rw [subs_same n f cs (by simpa [AV.refs] using h)]
  | .undef, _ => rfl
  | .void, _ => rfl
  | .d _, _ => rfl
  | .nil, _ => rfl
  | .dfull _, _ => rfl
theorem subs_same (n : Nat) (f : AV → AV) : ∀ (l : List AV), n ∉ AV.refs.AV.refss l → AV.sub.AV.subs n f l = l
  | [], _ => rfl
  | x :: xs, h => by
    simp only [AV.refs.AV.refss, List.mem_append, not_or] at h
    simp only [AV.sub.AV.subs]
    rw [sub_same n f x h.1, subs_same n f xs h.2]
end
mutual
theorem lose_gone (n : Nat) : ∀ (x : AV), n ∉ (x.sub n (fun _ => .undef)).refs
  | .box k o => by simp only [AV.sub]; split <;> simp_all [AV.refs, eq_comm]
  | .elem k i o => by simp only [AV.sub]; split <;> simp_all [AV.refs, eq_comm]
  | .own k => by simp only [AV.sub]; split <;> simp_all [AV.refs, eq_comm]
  | .view k o l => by simp only [AV.sub]; split <;> simp_all [AV.refs, eq_comm]
  | .bsl k l => by simp only [AV.sub]; split <;> simp_all [AV.refs, eq_comm]
  | .mp k => by simp only [AV.sub]; split <;> simp_all [AV.refs, eq_comm]
  | .vh k l => by simp only [AV.sub]; split <;> simp_all [AV.refs, eq_comm]
  | .vc k l => by simp only [AV.sub]; split <;> simp_all [AV.refs, eq_comm]
  | .dfull _ => by simp [AV.sub, AV.refs]
  | .agg cs => by simp only [AV.sub, AV.refs]; exact loses_gone n cs
  | .tup cs => by simp only [AV.sub, AV.refs]; exact loses_gone n cs
  | .fn g cs => by simp only [AV.sub, AV.refs]; exact loses_gone n cs
  | .undef => by simp [AV.sub, AV.refs]
  | .void => by simp [AV.sub, AV.refs]
  | .d _ => by simp [AV.sub, AV.refs]
  | .nil => by simp [AV.sub, AV.refs]
theorem loses_gone (n : Nat) : ∀ (l : List AV), n ∉ AV.refs.AV.refss (AV.sub.AV.subs n (fun _ => .undef) l)
  | [] => by simp [AV.sub.AV.subs, AV.refs.AV.refss]
  | x :: xs => by
    simp only [AV.sub.AV.subs, AV.refs.AV.refss, List.mem_append, not_or]
    exact ⟨lose_gone n x, loses_gone n xs⟩
end
theorem StRel.rename0 {P : Program} {base out : Own} {st : St} {μ : Pl} {tmps : Array Value} {w : World} (h : StRel P base out st μ tmps w) {n : Nat} (hn : μ n = none) (hl : n < st.m.length) (e z : Nat) :
    ∃ μ', StRel P base out { t := st.t, m := st.m.set n (some (.arr e z [])) } μ' tmps w ∧ ∀ b, ownOf out μ' b → ownOf out μ b := by
  have hown : ∀ b, ownOf out (μ.upd n (some .none0)) b → ownOf out μ b := by
    rintro b (hb | ⟨k, z, l, c, hb⟩)
    · exact .inl hb
    · by_cases hk : k = n
      · subst hk; rw [Pl.upd_same] at hb; cases hb
      · rw [Pl.upd_ne μ _ hk] at hb; exact .inr ⟨k, z, l, c, hb⟩
  have hg : Goes w (ownOf out μ) w (ownOf out (μ.upd n (some .none0))) := fun b o v h1 h2 => ⟨fun hc => h1 (hown b hc), h2⟩
  have hμ : ∀ k, (μ k).isSome → μ.upd n (some .none0) k = μ k := fun k hk => Pl.upd_ne μ _ (fun e => by subst e; rw [hn] at hk; cases hk)
  refine ⟨μ.upd n (some .none0), ⟨h.size, fun i x v h1 h2 => (h.tmp i x v h1 h2).goes hg (fun n _ hs => hμ n hs), ⟨fun k b hk => ?_, fun k hk => ?_, fun k q b z l c z' l' c' h1 h2 => ?_, fun k b z l c hb => ?_⟩, h.hid.less hown, h.out, h.le⟩, hown⟩
  · rw [List.getElem?_set] at hk
    by_cases hkn : n = k
    · subst hkn
      rw [if_pos rfl, if_pos hl] at hk
      cases hk
      exact .inl ⟨Pl.upd_same μ n _, rfl⟩
    · rw [if_neg hkn] at hk
      exact (h.mem.blk k b hk).goes hg (Pl.upd_ne μ _ (Ne.symm hkn)) hμ (fun _ _ _ _ _ => rfl)
  · rw [List.getElem?_set]
    by_cases hkn : n = k
    · subst hkn; exact ⟨.arr e z [], by rw [if_pos rfl, if_pos hl]⟩
    · rw [if_neg hkn]
      rw [Pl.upd_ne μ _ (Ne.symm hkn)] at hk
      exact h.mem.dom k hk
  · by_cases hk : k = n
    · subst hk; rw [Pl.upd_same] at h1; cases h1
    · by_cases hq : q = n
      · subst hq; rw [Pl.upd_same] at h2; cases h2
      · rw [Pl.upd_ne μ _ hk] at h1
        rw [Pl.upd_ne μ _ hq] at h2
        exact h.mem.inj k q b z l c z' l' c' h1 h2
  · by_cases hk : k = n
    · subst hk; rw [Pl.upd_same] at hb; cases hb
    · rw [Pl.upd_ne μ _ hk] at hb
      exact h.mem.base k b z l c hb
def killT : Option Nat → List AV → List AV
  | none, t => t
  | some n, t => t.map (AV.sub n fun _ => .undef)
def killM : Option Nat → List (Option Blk) → List (Option Blk)
  | none, m => m
  | some n, m => subMem n (fun _ => .undef) m
def St.applyA (st : St) (dst : Option Tmp) (e : Eff) (k : Option Nat) : St := ({ t := killT k st.t, m := killM k st.m } : St).apply dst e
def appOf (P : Program) (st : St) (dst : Option Tmp) (t t' : TypeId) (s x : AV) : Option (Eff × Option Nat) := if t' = t then match dst, tslice P t with
  | some d, some e => match tsz P e, tbytes P e, (tzero P e).map (·.cells.size), elemsOf st x with
    | some z, some by_, some zl, some xs => if zl = z ∧ 0 < z ∧ 0 < by_ ∧ by_ ≤ 2 ^ 7 ∧ headIs z xs then (match s with
        | .nil => match st.fresh d with
          | true => if xs.length ≤ 2 ^ 39 then some (⟨.own d, some (d, .arr e z xs)⟩, none) else none
          | _ => none
        | .own n => match st.m[n]? with
          | some (some (.arr e' z' rows)) => if e' = e ∧ z' = z ∧ rows.length + xs.length ≤ 2 ^ 39 then some (⟨.own n, some (n, .arr e z (rows ++ xs))⟩, some n) else none
          | _ => none
        | .vc n len => match st.m[n]? with
          | some (some (.arrP e' z' rows)) => if e' = e ∧ z' = z ∧ rows.length = len ∧ xs.length = 1 then some (⟨.vh n (len + 1), some (n, .arrP e z (rows ++ xs))⟩, none) else none
          | _ => none
        | .dfull rows => match st.fresh d with
          | true => if rows.length + xs.length ≤ 2 ^ 39 ∧ 0 < rows.length ∧ 0 < xs.length ∧ headIs z rows then some (⟨.own d, some (d, .arr e z (rows ++ xs))⟩, none) else none
          | _ => none
        | _ => none) else none
    | _, _, _, _ => none
  | _, _ => none else none
def boxTab : List (Option Blk) → Nat → List (Nat × List Nat)
  | [], _ => []
  | some (.box row) :: l, i => (i, AV.refs.AV.refss row) :: boxTab l (i + 1)
  | none :: l, i => boxTab l (i + 1)
  | some (.arr ..) :: l, i => boxTab l (i + 1)
  | some (.mp ..) :: l, i => boxTab l (i + 1)
  | some (.arrP ..) :: l, i => boxTab l (i + 1)
inductive EffA (P : Program) (o : Oper) (st : St) : Eff → Option Nat → Prop where
  | old (e : Eff) (h : EffR P o st e) : EffA P o st e none
  | app (t t' : TypeId) (s x : Operand) (e : Eff) (k : Option Nat) (ho : o.op = .call { callee := .builtin .append, args := #[s, x], argTypes := #[t, t'] })
      (h : appOf P st o.dst t t' (st.ev s) (st.ev x) = some (e, k)) : EffA P o st e k
  | appR (t t' : TypeId) (s x : Operand) (d n : Nat) (el z : Nat) (rows : List (List DV)) (hd : o.dst = some d) (hl : n < st.m.length) (hdl : d < st.t.length) (ho : o.op = .call { callee := .builtin .append, args := #[s, x], argTypes := #[t, t'] })
      (h : appOf P st o.dst t t' (st.ev s) (st.ev x) = some (⟨.own n, some (n, .arr el z rows)⟩, some n)) : EffA P o st ⟨.d (.sl rows), some (n, .arr el z [])⟩ (some n)
  | litD (d : Nat) (e z : Nat) (rows : List (List DV)) (t : TypeId) (len : Nat) (parts : Array (Nat × Operand)) (ho : o.op = .buildSlice t len parts) (hd : o.dst = some d) (hf : st.fresh d = true) (hdl : d < st.t.length)
      (h : opBuildSlice P st t len (parts.toList.map fun p => (p.1, st.ev p.2)) = some (.arr e z rows)) (hr : AV.refsAll (parts.toList.map fun p => st.ev p.2) = []) : EffA P o st ⟨.d (.sl rows), none⟩ none
theorem boxTab_mem : ∀ (m : List (Option Blk)) (i j : Nat) (row : List AV), m[j]? = some (some (.box row)) → (i + j, AV.refs.AV.refss row) ∈ boxTab m i
  | [], _, _, _, h => by simp at h
  | none :: l, i, j, row, h => by
    cases j with
    | zero => simp at h
    | succ j => simp only [boxTab]; rw [show i + (j + 1) = i + 1 + j by omega]; exact boxTab_mem l (i + 1) j row (by simpa using h)
  | some (.arr _ _ _) :: l, i, j, row, h => by
    cases j with
    | zero => simp at h
    | succ j => simp only [boxTab]; rw [show i + (j + 1) = i + 1 + j by omega]; exact boxTab_mem l (i + 1) j row (by simpa using h)
  | some (.arrP _ _ _) :: l, i, j, row, h => by
    cases j with
    | zero => simp at h
    | succ j => simp only [boxTab]; rw [show i + (j + 1) = i + 1 + j by omega]; exact boxTab_mem l (i + 1) j row (by simpa using h)
  | some (.mp _ _ _) :: l, i, j, row, h => by
    cases j with
    | zero => simp at h
    | succ j => simp only [boxTab]; rw [show i + (j + 1) = i + 1 + j by omega]; exact boxTab_mem l (i + 1) j row (by simpa using h)
  | some (.box r) :: l, i, j, row, h => by
    cases j with
    | zero => simp at h; subst h; simp [boxTab]
    | succ j => simp only [boxTab, List.mem_cons]; rw [show i + (j + 1) = i + 1 + j by omega]; exact .inr (boxTab_mem l (i + 1) j row (by simpa using h))
mutual
theorem lose_sub (n : Nat) : ∀ (x : AV), ∀ k ∈ (x.sub n (fun _ => .undef)).refs, k ∈ x.refs
  | .box k o, q, h => by simp only [AV.sub] at h; split at h <;> simp_all [AV.refs]
  | .elem k i o, q, h => by simp only [AV.sub] at h; split at h <;> simp_all [AV.refs]
  | .own k, q, h => by simp only [AV.sub] at h; split at h <;> simp_all [AV.refs]
  | .view k o l, q, h => by simp only [AV.sub] at h; split at h <;> simp_all [AV.refs]
  | .bsl k l, q, h => by simp only [AV.sub] at h; split at h <;> simp_all [AV.refs]
  | .mp k, q, h => by simp only [AV.sub] at h; split at h <;> simp_all [AV.refs]
  | .vh k l, q, h => by simp only [AV.sub] at h; split at h <;> simp_all [AV.refs]
  | .vc k l, q, h => by simp only [AV.sub] at h; split at h <;> simp_all [AV.refs]
  | .agg cs, q, h => by simp only [AV.sub, AV.refs] at h ⊢; exact loses_sub n cs q h
  | .tup cs, q, h => by simp only [AV.sub, AV.refs] at h ⊢; exact loses_sub n cs q h
  | .fn f cs, q, h => by simp only [AV.sub, AV.refs] at h ⊢; exact loses_sub n cs q h
  | .undef, _, h => h
  | .void, _, h => h
  | .d _, _, h => h
  | .nil, _, h => h
  | .dfull _, _, h => h
theorem loses_sub (n : Nat) : ∀ (l : List AV), ∀ k ∈ AV.refs.AV.refss (AV.sub.AV.subs n (fun _ => .undef) l), k ∈ AV.refs.AV.refss l
  | [], _, h => h
  | x :: xs, q, h => by
    simp only [AV.sub.AV.subs, AV.refs.AV.refss, List.mem_append] at h ⊢
    rcases h with h | h
    · exact .inl (lose_sub n x q h)
    · exact .inr (loses_sub n xs q h)
end
theorem Blk.lose_same {n : Nat} {b : Blk} (h : ∀ row, b = .box row → n ∉ AV.refs.AV.refss row) : b.sub n (fun _ => .undef) = b := by
  cases b with
  | box row => simp only [Blk.sub]; rw [← AV.subs_eq, loses_same n row (h row rfl)]
  | arr => rfl
  | mp => rfl
  | arrP => rfl
theorem killM_at {k : Option Nat} {m : List (Option Blk)} {q : Nat} (h : ∀ n row, k = some n → m[q]? = some (some (.box row)) → n ∉ AV.refs.AV.refss row) : (killM k m)[q]? = m[q]? := by
  cases k with
  | none => rfl
  | some n =>
    simp only [killM, subMem_get]
    cases hm : m[q]? with
    | none => rfl
    | some ob =>
      cases ob with
      | none => rfl
      | some b => simp only [Option.map_some]; rw [Blk.lose_same fun row hb => h n row rfl (by rw [hm, hb])]
theorem subMem_set {n : Nat} {m : List (Option Blk)} {q : Nat} {b : Blk} (h : ∀ row, b = .box row → n ∉ AV.refs.AV.refss row) : subMem n (fun _ => .undef) (m.set q (some b)) = (subMem n (fun _ => .undef) m).set q (some b) := by
  apply List.ext_getElem?
  intro i
  have hl : (subMem n (fun _ => AV.undef) m).length = m.length := by
    have : ∀ m : List (Option Blk), (subMem n (fun _ => AV.undef) m).length = m.length := by
      intro m
      induction m with
      | nil => rfl
      | cons x xs ih => cases x <;> simp [subMem, ih]
    exact this m
  rw [subMem_get, List.getElem?_set, List.getElem?_set, subMem_get, hl]
  by_cases hq : q = i
  · subst hq
    rw [if_pos rfl, if_pos rfl]
    split
    · simp only [Option.map_some]; rw [Blk.lose_same h]
    · rfl
  · rw [if_neg hq, if_neg hq]
section
variable {P : Program} {ops : Array Oper} {o : Oper} {s st : St}
theorem appOf_step {t t' : TypeId} {s x : Operand} {e : Eff} {k : Option Nat} (ho : o.op = .call { callee := .builtin .append, args := #[s, x], argTypes := #[t, t'] })
    (h : appOf P st o.dst t t' (st.ev s) (st.ev x) = some (e, k)) : stepOp P o st = some (st.applyA o.dst e k) := by
  unfold stepOp
  rw [ho]
  simp only [List.map_cons, List.map_nil]
  unfold appOf at h
  unfold opAppend
  split at h
  · rename_i htt
    rw [if_pos htt]
    split at h
    · rename_i d e' hd he
      rw [hd, he]
      simp only
      split at h
      · rename_i z by_ zl xs h1 h2 h3 h4
        rw [h1, h2, h3, h4]
        simp only
        split at h
        · rename_i hc
          rw [if_pos hc]
          split at h
          · rename_i hs
            rw [hs]
            simp only
            split at h
            · rename_i hfr
              rw [hfr]
              simp only
              split at h
              · rename_i hl
                rw [if_pos hl]
                cases h
                rfl
              · cases h
            · cases h
          · rename_i n hs
            rw [hs]
            simp only
            split at h
            · rename_i e2 z2 rows hm
              rw [hm]
              simp only
              split at h
              · rename_i hl
                rw [if_pos hl]
                cases h
                rfl
              · cases h
            · cases h
          · rename_i n len hs
            rw [hs]
            simp only
            split at h
            · rename_i e2 z2 rows hm
              rw [hm]
              simp only
              split at h
              · rename_i hl
                rw [if_pos hl]
                cases h
                rfl
              · cases h
            · cases h
          · rename_i rows hs
            rw [hs]
            simp only
            split at h
            · rename_i hfr
              rw [hfr]
              simp only
              split at h
              · rename_i hl
                rw [if_pos hl]
                cases h
                rfl
              · cases h
            · cases h
          · cases h
        · cases h
      · cases h
    · cases h
  · cases h
theorem EffA.step {e : Eff} {k : Option Nat} (h : EffA P o st e k) : StepR P o st (st.applyA o.dst e k) := by
  cases h with
  | old e h => exact h.step
  | app t t' s x _ _ ho h => exact .inr (.inl ⟨by simp [isCall, ho], appOf_step ho h⟩)
  | appR t t' s x d n el z rows hd hl hdl ho h =>
    refine .inr (.inr ⟨by simp [isCall, ho], _, appOf_step ho h, fun base out μ tmps w μ1 tmps1 w1 _ h1 => ?_⟩)
    have hn1 : (st.applyA o.dst ⟨.own n, some (n, .arr el z rows)⟩ (some n)).m[n]? = some (some (.arr el z rows)) := by
      have : (killM (some n) st.m).length = st.m.length := by
        have : ∀ m : List (Option Blk), (subMem n (fun _ => AV.undef) m).length = m.length := by
          intro m
          induction m with
          | nil => rfl
          | cons x xs ih => cases x <;> simp [subMem, ih]
        exact this _
      simp only [St.applyA, St.apply]
      rw [List.getElem?_set_self (by rw [this]; exact hl)]
    obtain ⟨μ2, h2, _, hless, hgone⟩ := h1.release n
    obtain ⟨μ3, h3, hless3⟩ := h2.rename0 (hgone ⟨_, hn1⟩) (by
      have := (List.getElem?_eq_some_iff.1 hn1).1
      unfold St.release
      rw [hn1]
      have e : ∀ (f : AV → AV) (m : List (Option Blk)), (subMem n f m).length = m.length := by
        intro f m
        induction m with
        | nil => rfl
        | cons x xs ih => cases x <;> simp [subMem, ih]
      simp only [e, List.length_set]
      exact this) el z
    refine ⟨μ3, ?_, fun b hb => hless b (hless3 b hb)⟩
    have key : ({ t := ((st.applyA o.dst ⟨.own n, some (n, .arr el z rows)⟩ (some n)).release n).t, m := ((st.applyA o.dst ⟨.own n, some (n, .arr el z rows)⟩ (some n)).release n).m.set n (some (.arr el z [])) } : St) = st.applyA o.dst ⟨.d (.sl rows), some (n, .arr el z [])⟩ (some n) := by
      have e1 : (st.applyA o.dst ⟨.own n, some (n, .arr el z rows)⟩ (some n)).release n = { t := (st.applyA o.dst ⟨.own n, some (n, .arr el z rows)⟩ (some n)).t.map (AV.sub n (snapLeaf (.arr el z rows))), m := subMem n (snapLeaf (.arr el z rows)) ((st.applyA o.dst ⟨.own n, some (n, .arr el z rows)⟩ (some n)).m.set n none) } := by
        unfold St.release
        rw [hn1]
      rw [e1]
      have ht : (st.applyA o.dst ⟨.own n, some (n, .arr el z rows)⟩ (some n)).t.map (AV.sub n (snapLeaf (.arr el z rows))) = (st.applyA o.dst ⟨.d (.sl rows), some (n, .arr el z [])⟩ (some n)).t := by
        rw [hd]
        simp only [St.applyA, St.apply, St.put, killT, List.map_set, List.map_map]
        have : (AV.sub n (snapLeaf (.arr el z rows)) ∘ AV.sub n fun _ => AV.undef) = AV.sub n fun _ => AV.undef := funext fun x => sub_same n _ _ (lose_gone n x)
        rw [this]
        simp [AV.sub, snapLeaf]
      have hm : (subMem n (snapLeaf (.arr el z rows)) ((st.applyA o.dst ⟨.own n, some (n, .arr el z rows)⟩ (some n)).m.set n none)).set n (some (.arr el z [])) = (st.applyA o.dst ⟨.d (.sl rows), some (n, .arr el z [])⟩ (some n)).m := by
        simp only [St.applyA, St.apply, killM, List.set_set]
        apply List.ext_getElem?
        intro i
        have hlen : ∀ (f : AV → AV) (m : List (Option Blk)), (subMem n f m).length = m.length := by
          intro f m
          induction m with
          | nil => rfl
          | cons x xs ih => cases x <;> simp [subMem, ih]
        rw [List.getElem?_set, List.getElem?_set, hlen, List.length_set]
        by_cases hi : n = i
        · rw [if_pos hi, if_pos hi]
        · rw [if_neg hi, if_neg hi, subMem_get, List.getElem?_set_ne hi, subMem_get]
          cases st.m[i]? with
          | none => rfl
          | some ob =>
            cases ob with
            | none => rfl
            | some b =>
              cases b with
              | box row =>
                simp only [Option.map_some, Blk.sub]
                rw [← AV.subs_eq, ← AV.subs_eq, subs_same n _ _ (loses_gone n row)]
              | arr => rfl
              | mp => rfl
              | arrP => rfl
      rw [ht, hm]
    rw [← key]
    exact h3
  | litD d e z rows t len parts ho hd hf hdl h hr =>
    have hst : stepOp P o st = some (st.addBlk d (.own d) (.arr e z rows)) := by
      have := (EffR.lit (P := P) d e z rows t len parts ho hd hf h hr)
      have hps : (parts.toList.map fun p => (p.1, st.ev p.2)).map (·.2) = parts.toList.map fun p => st.ev p.2 := by simp [Function.comp_def]
      unfold stepOp
      rw [ho]
      simp only [h, hd, Option.getD_some, hf, hps, hr]
      rfl
    refine .inr (.inr ⟨by simp [isCall, ho], _, hst, fun base out μ tmps w μ1 tmps1 w1 h0 h1 => ?_⟩)
    have hfr := fresh_spec hf
    have hl : d < st.m.length := (List.getElem?_eq_some_iff.1 hfr).1
    have hn1 : (st.addBlk d (.own d) (.arr e z rows)).m[d]? = some (some (.arr e z rows)) := by simp only [St.addBlk]; rw [List.getElem?_set_self hl]
    obtain ⟨μ2, h2, _, hless, hgone⟩ := h1.release d
    refine ⟨μ2, ?_, hless⟩
    have hnp := notPlaced h0.mem hfr
    have norefs : ∀ (i : Nat) x, st.t[i]? = some x → d ∉ x.refs := fun i x hx hc => by
      have hi : i < tmps.size := by rw [h0.size]; exact (List.getElem?_eq_some_iff.1 hx).1
      have := (h0.tmp i x tmps[i] hx (by simp [hi])).placed d hc
      rw [hnp] at this; cases this
    have norefm : ∀ (i : Nat) row, st.m[i]? = some (some (.box row)) → d ∉ AV.refs.AV.refss row := fun i row hrow hc => by
      obtain ⟨b, cs, ty, q1, q2, q3, q4⟩ := h0.mem.box hrow
      have many : ∀ (l : List AV), d ∈ AV.refs.AV.refss l → ∃ (j : Nat) (x : AV), l[j]? = some x ∧ d ∈ x.refs := by
        intro l
        induction l with
        | nil => intro h; simp [AV.refs.AV.refss] at h
        | cons y ys ih =>
          intro h
          simp only [AV.refs.AV.refss, List.mem_append] at h
          rcases h with h | h
          · exact ⟨0, y, rfl, h⟩
          · obtain ⟨j, x, h1, h2⟩ := ih h; exact ⟨j + 1, x, by simpa using h1, h2⟩
      obtain ⟨j, x, hx, hdx⟩ := many row hc
      have hj : j < cs.size := Nat.lt_of_lt_of_le (List.getElem?_eq_some_iff.1 hx).1 q3
      have := (q4 j x cs[j] hx (by simp [hj])).2.placed d hdx
      rw [hnp] at this; cases this
    have key : (st.addBlk d (.own d) (.arr e z rows)).release d = st.applyA o.dst ⟨.d (.sl rows), none⟩ none := by
      have e1 : (st.addBlk d (.own d) (.arr e z rows)).release d = { t := (st.addBlk d (.own d) (.arr e z rows)).t.map (AV.sub d (snapLeaf (.arr e z rows))), m := subMem d (snapLeaf (.arr e z rows)) ((st.addBlk d (.own d) (.arr e z rows)).m.set d none) } := by
        unfold St.release
        rw [hn1]
      rw [e1, hd]
      simp only [St.addBlk, St.applyA, St.apply, St.put, killT, killM, List.map_set, List.set_set]
      have ht : st.t.map (AV.sub d (snapLeaf (.arr e z rows))) = st.t := by
        apply List.ext_getElem?
        intro i
        rw [List.getElem?_map]
        cases hx : st.t[i]? with
        | none => rfl
        | some x => simp only [Option.map_some]; rw [sub_same d _ x (norefs i x hx)]
      have hm : subMem d (snapLeaf (.arr e z rows)) (st.m.set d none) = st.m := by
        apply List.ext_getElem?
        intro i
        rw [subMem_get, List.getElem?_set]
        by_cases hi : d = i
        · subst hi
          rw [if_pos rfl, if_pos hl, hfr]
          rfl
        · rw [if_neg hi]
          cases hx : st.m[i]? with
          | none => rfl
          | some ob =>
            cases ob with
            | none => rfl
            | some b =>
              cases b with
              | box row => simp only [Option.map_some, Blk.sub]; rw [← AV.subs_eq, subs_same d _ row (norefm i row hx)]
              | arr => rfl
              | mp => rfl
              | arrP => rfl
      rw [ht, hm]
      simp [AV.sub, snapLeaf]
    rw [← key]
    exact h2
theorem appOf_local {s s' : St} {dst : Option Tmp} {t t' : TypeId} {a x : AV} (h : Agree (a.refs ++ x.refs ++ dst.toList) s.m s'.m) : appOf P s dst t t' a x = appOf P s' dst t t' a x := by
  unfold appOf
  rw [elemsOf_local (st' := s') (h.mono fun n hn => by simp [hn])]
  cases dst with
  | none => rfl
  | some d =>
    have hfr := fresh_agree (s := s) (s' := s') (h d (by simp))
    cases a with
    | own n => simp only [h n (by simp [AV.refs])]
    | vc n len => simp only [h n (by simp [AV.refs])]
    | dfull rows =>
      split
      · split
        · rename_i hd _
          cases hd
          split
          · split
            · rw [hfr]
            · rfl
          · rfl
        · rfl
      · rfl
    | nil =>
      split
      · split
        · rename_i hd _
          cases hd
          split
          · split
            · rw [hfr]
            · rfl
          · rfl
        · rfl
      · rfl
    | _ => rfl
def EffGA (P : Program) (ops : Array Oper) (o : Oper) (s : St) (e : Eff) (k : Option Nat) : Prop := match guardT ops o with
  | none => False
  | some none => EffA P o s e k
  | some (some (t, want)) => (s.ev (.tmp t) = .d (.bool want) ∧ EffA P o s e k) ∨ ((s.ev (.tmp t) = .d (.bool (!want)) ∨ s.ev (.tmp t) = .void) ∧ e = ⟨.void, none⟩ ∧ k = none)
theorem EffGA.step {e : Eff} {k : Option Nat} (h : EffGA P ops o s e k) : StepG P ops o s (s.applyA o.dst e k) := by
  unfold EffGA at h
  unfold StepG
  unfold guardT at h
  cases hg : o.guard with
  | none => rw [hg] at h; exact h.step
  | some gw =>
    obtain ⟨j, want⟩ := gw
    rw [hg] at h
    simp only at h ⊢
    cases ht : (ops[j]?).bind (·.dst) with
    | none => rw [ht] at h; exact h.elim
    | some t =>
      rw [ht] at h
      refine ⟨t, rfl, ?_⟩
      rcases h with ⟨h1, h2⟩ | ⟨h1, rfl, rfl⟩
      · exact .inl ⟨h1, h2.step⟩
      · exact .inr ⟨h1, by cases o.dst <;> rfl⟩
structure RecA where
  i : Nat
  e : Eff
  k : Option Nat
  N : List Nat
  R : List Nat
  u : Bool
def boxE (e : Eff) : List Nat := match e.m with
  | some (_, .box row) => AV.refs.AV.refss row
  | _ => []
structure LocalA (P : Program) (ops : Array Oper) (o : Oper) (s : St) (r : RecA) : Prop where
  eff : EffGA P ops o s r.e r.k
  loc : ∀ s' : St, (∀ t ∈ o.looksAt ops, s.ev (.tmp t) = s'.ev (.tmp t)) → s.t.length = s'.t.length → s.m.length = s'.m.length → Agree r.N s.m s'.m → EffGA P ops o s' r.e r.k
  look : ∀ t ∈ o.looksAt ops, ∀ n ∈ (s.ev (.tmp t)).refs, n ∈ r.R
  whole : r.u = true → ∀ t ∈ o.looksAt ops, (s.ev (.tmp t)).whole = true
  val : ∀ n ∈ r.e.v.refs, n ∈ r.R
inductive ChainA (P : Program) (ops : Array Oper) : List RecA → St → St → Prop where
  | nil (s : St) : ChainA P ops [] s s
  | cons {r : RecA} {rs : List RecA} {s s' : St} {o : Oper} (ho : ops[r.i]? = some o) (hd : dstOk o = true) (h : LocalA P ops o s r) (ht : ChainA P ops rs (s.applyA o.dst r.e r.k) s') : ChainA P ops (r :: rs) s s'
def missB (k : Option Nat) (R : List Nat) : Bool := match k with
  | none => true
  | some n => !R.contains n
abbrev KeyA := Nat × List Nat × List Nat × Option Nat × List Nat × Bool × List Nat
def RecA.key (r : RecA) : KeyA := (r.i, r.e.name, r.N, r.k, r.R, r.u, boxE r.e)
def clearB (Bf : Nat → List Nat) (k : Option Nat) (b : KeyA) : Bool := match k with
  | none => true
  | some n => (Bf n).all fun q => !(b.2.2.1.contains q || b.2.1.contains q)
def indepA (ops : Array Oper) (Bf : Nat → List Nat) (a b : KeyA) : Bool := indepB ops (a.1, a.2.1, a.2.2.1) (b.1, b.2.1, b.2.2.1) &&
  ((a.2.2.2.1.isNone || (b.2.2.2.2.2.1 && missB a.2.2.2.1 b.2.2.2.2.1)) && ((missB b.2.2.2.1 a.2.2.2.2.1 && (a.2.2.2.1.isNone || b.2.2.2.1.isNone)) && (clearB Bf a.2.2.2.1 b && clearB Bf b.2.2.2.1 a)))
theorem apply_evA {dst : Option Tmp} {e : Eff} {k : Option Nat} {t : Tmp} (h : dst ≠ some t) (hk : ∀ n, k = some n → n ∉ (s.ev (.tmp t)).refs) : (s.applyA dst e k).ev (.tmp t) = s.ev (.tmp t) := by
  unfold St.applyA
  rw [apply_ev h]
  cases k with
  | none => rfl
  | some n =>
    have := hk n rfl
    simp only [St.ev, killT, List.getD_eq_getElem?_getD, List.getElem?_map] at this ⊢
    cases hx : s.t[t]? with
    | none => rfl
    | some x =>
      rw [hx] at this
      simp only [Option.map_some, Option.getD_some] at this ⊢
      exact lose_same n x this
theorem apply_evW {dst : Option Tmp} {e : Eff} {k : Option Nat} {t : Tmp} (h : dst ≠ some t) (hw : ((s.applyA dst e k).ev (.tmp t)).whole = true) : (s.applyA dst e k).ev (.tmp t) = s.ev (.tmp t) := by
  refine apply_evA h fun n hk => ?_
  subst hk
  unfold St.applyA at hw
  rw [apply_ev h] at hw
  simp only [St.ev, killT, List.getD_eq_getElem?_getD, List.getElem?_map] at hw ⊢
  cases hx : s.t[t]? with
  | none => simp [AV.refs]
  | some x =>
    rw [hx] at hw
    simp only [Option.map_some, Option.getD_some] at hw ⊢
    exact lose_whole n x hw
theorem apply_mA {dst : Option Tmp} {e : Eff} {k : Option Nat} {n : Nat} (h : n ∉ e.name) (hk : ∀ q row, k = some q → s.m[n]? = some (some (.box row)) → q ∉ AV.refs.AV.refss row) : (s.applyA dst e k).m[n]? = s.m[n]? := by
  unfold St.applyA
  rw [apply_m h]
  exact killM_at hk
theorem lose_set {n : Nat} {v : AV} (hv : n ∉ v.refs) (t : List AV) (a : Nat) : (t.set a v).map (AV.sub n fun _ => .undef) = (t.map (AV.sub n fun _ => .undef)).set a v := by
  rw [List.map_set, lose_same n v hv]
theorem applyA_comm {d d' : Option Tmp} {e e' : Eff} {k k' : Option Nat} (hd : ∀ t, d = some t → d' ≠ some t) (hn : ∀ n ∈ e.name, n ∉ e'.name) (h1 : ∀ n, k = some n → n ∉ e'.v.refs ∧ n ∉ boxE e') (h2 : ∀ n, k' = some n → n ∉ e.v.refs ∧ n ∉ boxE e) (h3 : k = none ∨ k' = none) :
    (s.applyA d e k).applyA d' e' k' = (s.applyA d' e' k').applyA d e k := by
  have key : ∀ (s : St) (d d' : Option Tmp) (e e' : Eff) (n : Nat), (∀ t, d = some t → d' ≠ some t) → (∀ n ∈ e.name, n ∉ e'.name) → n ∉ e'.v.refs → n ∉ boxE e' → (s.applyA d e (some n)).applyA d' e' none = (s.applyA d' e' none).applyA d e (some n) := by
    intro s d d' e e' n hd hn hv hb
    have e1 : (s.applyA d e (some n)).applyA d' e' none = (({ t := killT (some n) s.t, m := killM (some n) s.m } : St).apply d e).apply d' e' := rfl
    have e2 : (s.applyA d' e' none).applyA d e (some n) = (({ t := killT (some n) s.t, m := killM (some n) s.m } : St).apply d' e').apply d e := by
      have : ({ t := killT (some n) (s.apply d' e').t, m := killM (some n) (s.apply d' e').m } : St) = ({ t := killT (some n) s.t, m := killM (some n) s.m } : St).apply d' e' := by
        have ht : killT (some n) (s.apply d' e').t = (({ t := killT (some n) s.t, m := killM (some n) s.m } : St).apply d' e').t := by
          cases d' with
          | none => rfl
          | some a =>
            simp only [St.apply, St.put, killT]
            rw [lose_set hv]
        have hm : killM (some n) (s.apply d' e').m = (({ t := killT (some n) s.t, m := killM (some n) s.m } : St).apply d' e').m := by
          obtain ⟨v', m'⟩ := e'
          cases m' with
          | none => rfl
          | some nb =>
            obtain ⟨q, b⟩ := nb
            simp only [St.apply, killM]
            exact subMem_set fun row hr => by subst hr; simpa [boxE] using hb
        rw [ht, hm]
      show ({ t := killT (some n) (s.apply d' e').t, m := killM (some n) (s.apply d' e').m } : St).apply d e = _
      rw [this]
    rw [e1, e2]
    exact apply_comm hd hn
  cases k with
  | none =>
    cases k' with
    | none => exact apply_comm hd hn
    | some n => exact (key s d' d e' e n (fun t h h' => hd t h' h) (fun a h h' => hn a h' h) (h2 n rfl).1 (h2 n rfl).2).symm
  | some n =>
    cases k' with
    | none => exact key s d d' e e' n hd hn (h1 n rfl).1 (h1 n rfl).2
    | some n' => rcases h3 with h3 | h3 <;> cases h3
def InB (Bf : Nat → List Nat) (Ks : List Nat) (m : List (Option Blk)) : Prop := ∀ n ∈ Ks, ∀ (i : Nat) row, m[i]? = some (some (.box row)) → n ∈ AV.refs.AV.refss row → i ∈ Bf n
def okRec (Bf : Nat → List Nat) (Ks : List Nat) (r : RecA) : Prop := (∀ n, r.k = some n → n ∈ Ks) ∧ ∀ n ∈ boxE r.e, n ∈ Ks → ∀ q ∈ r.e.name, q ∈ Bf n
theorem InB.apply {Bf : Nat → List Nat} {Ks : List Nat} (h : InB Bf Ks s.m) {dst : Option Tmp} {e : Eff} {k : Option Nat} (hb : ∀ n ∈ boxE e, n ∈ Ks → ∀ q ∈ e.name, q ∈ Bf n) : InB Bf Ks (s.applyA dst e k).m := by
  intro n hn i row h1 h2
  obtain ⟨v, m⟩ := e
  have old : (killM k s.m)[i]? = some (some (.box row)) → i ∈ Bf n := by
    intro h3
    cases k with
    | none => exact h n hn i row h3 h2
    | some q =>
      simp only [killM, subMem_get, Option.map_eq_some_iff] at h3
      obtain ⟨ob, hob, b, hb1, hb2⟩ := h3
      cases b with
      | box r0 =>
        simp only [Blk.sub, Blk.box.injEq] at hb2
        subst hb1
        refine h n hn i r0 hob (loses_sub q r0 n ?_)
        rw [AV.subs_eq, hb2]
        exact h2
      | arr => simp [Blk.sub] at hb2
      | mp => simp [Blk.sub] at hb2
      | arrP => simp [Blk.sub] at hb2
  cases m with
  | none => exact old h1
  | some nb =>
    obtain ⟨q, b⟩ := nb
    simp only [St.applyA, St.apply] at h1
    rw [List.getElem?_set] at h1
    split at h1
    · rename_i hqi
      split at h1
      · cases h1
        exact hb n (by simpa [boxE] using h2) hn i (by simp [Eff.name, hqi])
      · cases h1
    · exact old h1
theorem applyA_tlen (s : St) (d : Option Tmp) (e : Eff) (k : Option Nat) : (s.applyA d e k).t.length = s.t.length := by
  cases d <;> cases k <;> simp [St.applyA, St.apply, St.put, killT]
theorem applyA_mlen (s : St) (d : Option Tmp) (e : Eff) (k : Option Nat) : (s.applyA d e k).m.length = s.m.length := by
  have h : ∀ (f : AV → AV) (n : Nat) (m : List (Option Blk)), (subMem n f m).length = m.length := by
    intro f n m
    induction m with
    | nil => rfl
    | cons x xs ih => cases x <;> simp [subMem, ih]
  have hk : (killM k s.m).length = s.m.length := by cases k <;> simp [killM, h]
  obtain ⟨v, m⟩ := e
  cases m with
  | none => exact hk
  | some nb => simp [St.applyA, St.apply, hk]
theorem swapA {Bf : Nat → List Nat} {Ks : List Nat} {a b : RecA} {s s' : St} {rs : List RecA} (hi : indepA ops Bf a.key b.key = true) (hF : InB Bf Ks s.m) (ha : okRec Bf Ks a) (hb : okRec Bf Ks b) (h : ChainA P ops (a :: b :: rs) s s') : ChainA P ops (b :: a :: rs) s s' := by
  cases h with
  | cons ho hd h ht =>
  rename_i x
  cases ht with
  | cons ho' hd' h' ht =>
  rename_i y
  simp only [indepA, RecA.key, indepB, ho, ho', Bool.and_eq_true, List.all_eq_true, Bool.not_eq_true', Bool.or_eq_false_iff, List.contains_eq_mem, decide_eq_false_iff_not, Bool.or_eq_true, Option.isNone_iff_eq_none] at hi
  obtain ⟨⟨⟨h1, h2⟩, h3⟩, hk1, ⟨hk2, hk3⟩, hc1, hc2⟩ := hi
  obtain ⟨a1, a2, a3⟩ := Oper.apart_spec h1
  have miss : ∀ {k : Option Nat} {R : List Nat}, missB k R = true → ∀ n, k = some n → n ∉ R := by
    intro k R hm n hk hn
    subst hk
    simp [missB, hn] at hm
  have clear : ∀ {k : Option Nat} {r : RecA}, clearB Bf k (r.i, r.e.name, r.N, r.k, r.R, r.u, boxE r.e) = true → ∀ n, k = some n → ∀ q ∈ Bf n, q ∉ r.N ∧ q ∉ r.e.name := by
    intro k r hc n hk q hq
    subst hk
    simp only [clearB, List.all_eq_true, Bool.not_eq_true', Bool.or_eq_false_iff, List.contains_eq_mem, decide_eq_false_iff_not] at hc
    exact hc q hq
  have noBox : ∀ {k : Option Nat} {r : RecA}, okRec Bf Ks r → (∀ n, k = some n → n ∈ Ks) → clearB Bf k (r.i, r.e.name, r.N, r.k, r.R, r.u, boxE r.e) = true → ∀ n, k = some n → n ∉ boxE r.e := by
    intro k r hr hK hc n hk hn
    have : ∃ q, q ∈ r.e.name := by
      unfold boxE at hn
      split at hn
      · rename_i q row hq; exact ⟨q, by simp [Eff.name, hq]⟩
      · simp at hn
    obtain ⟨q, hq⟩ := this
    exact (clear hc n hk q (hr.2 n hn (hK n hk) q hq)).2 hq
  -- b first
  have hev1 : ∀ t ∈ y.looksAt ops, (s.applyA x.dst a.e a.k).ev (.tmp t) = s.ev (.tmp t) := by
    intro t ht
    rcases hk1 with hk | ⟨hu, _⟩
    · exact apply_evA (fun hd => a1 t hd ht) (fun n hn => by rw [hk] at hn; cases hn)
    · exact apply_evW (fun hd => a1 t hd ht) (h'.whole hu t ht)
  have hm1 : Agree b.N (s.applyA x.dst a.e a.k).m s.m := fun n hn => apply_mA (fun hc => (h2 n hc).1 hn) fun q row hk hrow hq => (clear hc1 q hk n (hF q (ha.1 q hk) n row hrow hq)).1 hn
  have hbl : LocalA P ops y s b := ⟨h'.loc s hev1 (applyA_tlen ..) (applyA_mlen ..) hm1, fun s2 he2 htl2 hml2 ha2 => h'.loc s2 (fun t ht => (hev1 t ht).trans (he2 t ht)) ((applyA_tlen ..).trans htl2) ((applyA_mlen ..).trans hml2) (fun n hn => (hm1 n hn).trans (ha2 n hn)),
    fun t ht n hn => h'.look t ht n (by rw [hev1 t ht]; exact hn), fun hu t ht => by rw [← hev1 t ht]; exact h'.whole hu t ht, h'.val⟩
  -- then a
  have hev2 : ∀ t ∈ x.looksAt ops, s.ev (.tmp t) = (s.applyA y.dst b.e b.k).ev (.tmp t) := fun t ht => (apply_evA (fun hd => a3 t hd ht) (fun n hn hc => miss hk2 n hn (h.look t ht n hc))).symm
  have hm2 : Agree a.N s.m (s.applyA y.dst b.e b.k).m := fun n hn => (apply_mA (fun hc => (h3 n hc).1 hn) fun q row hk hrow hq => (clear hc2 q hk n (hF q (hb.1 q hk) n row hrow hq)).1 hn).symm
  have hal : LocalA P ops x (s.applyA y.dst b.e b.k) a := ⟨h.loc _ hev2 (applyA_tlen ..).symm (applyA_mlen ..).symm hm2, fun s2 he2 htl2 hml2 ha2 => h.loc s2 (fun t ht => (hev2 t ht).trans (he2 t ht)) ((applyA_tlen ..).symm.trans htl2) ((applyA_mlen ..).symm.trans hml2) (fun n hn => (hm2 n hn).trans (ha2 n hn)),
    fun t ht n hn => h.look t ht n (by rw [hev2 t ht]; exact hn), fun hu t ht => by rw [← hev2 t ht]; exact h.whole hu t ht, h.val⟩
  refine .cons ho' hd' hbl (.cons ho hd hal ?_)
  rw [← applyA_comm (fun t hd hd2 => a2 t hd hd2) (fun n hn => (h2 n hn).2) (fun n hn => ⟨fun hc => ?_, noBox hb ha.1 hc1 n hn⟩) (fun n hn => ⟨fun hc => miss hk2 n hn (h.val n hc), noBox ha hb.1 hc2 n hn⟩) hk3]
  · exact ht
  · rcases hk1 with hk | ⟨_, hk⟩
    · rw [hk] at hn; cases hn
    · exact miss hk n hn (h'.val n hc)
theorem bubbleA {Bf : Nat → List Nat} {Ks : List Nat} {r : RecA} {B : List RecA} {s' : St} (hr : okRec Bf Ks r) : ∀ (A : List RecA) (s : St), InB Bf Ks s.m → (∀ a ∈ A, okRec Bf Ks a) → (∀ a ∈ A, indepA ops Bf a.key r.key = true) → ChainA P ops (A ++ r :: B) s s' → ChainA P ops (r :: (A ++ B)) s s'
  | [], _, _, _, _, h => h
  | a :: A, s, hF, hA, hi, h => by
    cases h with
    | cons ho hd h ht =>
    have := bubbleA hr A _ (hF.apply (hA a (by simp)).2) (fun b hb => hA b (by simp [hb])) (fun b hb => hi b (by simp [hb])) ht
    exact swapA (hi a (by simp)) hF (hA a (by simp)) hr (.cons ho hd h this)
def FreeChain (P : Program) (ops : Array Oper) (Bf : Nat → List Nat) (Ks : List Nat) (rs : List RecA) (s s' : St) : Prop := InB Bf Ks s.m ∧ (∀ r ∈ rs, okRec Bf Ks r) ∧ ChainA P ops rs s s'
def pairsA (ops : Array Oper) (Bf : Nat → List Nat) (ms : List Nat) : List KeyA → Bool
  | [] => true
  | a :: l => l.all (fun b => (ms.getD b.1 0).testBit a.1 || indepA ops Bf a b) && pairsA ops Bf ms l
theorem pairsA_spec {Bf : Nat → List Nat} (hm : ∀ k i, ((masks ops.toList []).getD k 0).testBit i = true → Anc ops i k) : ∀ {rs : List RecA}, pairsA ops Bf (masks ops.toList []) (rs.map RecA.key) = true → rs.Pairwise (fun a b => Anc ops a.i b.i ∨ indepA ops Bf a.key b.key = true)
  | [], _ => .nil
  | a :: rs, h => by
    simp only [List.map_cons, pairsA, Bool.and_eq_true, List.all_eq_true, List.mem_map, forall_exists_index, and_imp, forall_apply_eq_imp_iff₂, Bool.or_eq_true] at h
    refine .cons (fun b hb => ?_) (pairsA_spec hm h.2)
    rcases h.1 b hb with h1 | h1
    · exact .inl (hm _ _ h1)
    · exact .inr h1
def inBoxes (B0 : List (Nat × List Nat)) (acc : List KeyA) (n : Nat) : List Nat := (B0.flatMap fun p => if p.2.contains n then [p.1] else []) ++ acc.flatMap fun b => if b.2.2.2.2.2.2.contains n then b.2.1 else []
def killsOf (rs : List RecA) : List Nat := rs.filterMap (·.k)
theorem inBoxes_spec (rs : List RecA) : InB (inBoxes (boxTab s.m 0) (rs.map RecA.key)) (killsOf rs) s.m ∧ ∀ r ∈ rs, okRec (inBoxes (boxTab s.m 0) (rs.map RecA.key)) (killsOf rs) r := by
  refine ⟨fun n _ i row h1 h2 => ?_, fun r hr => ⟨fun n hk => List.mem_filterMap.2 ⟨r, hr, hk⟩, fun n hn _ q hq => ?_⟩⟩
  · have := boxTab_mem s.m 0 i row h1
    rw [Nat.zero_add] at this
    refine List.mem_append_left _ (List.mem_flatMap.2 ⟨_, this, ?_⟩)
    simp [h2]
  · refine List.mem_append_right _ (List.mem_flatMap.2 ⟨r.key, List.mem_map.2 ⟨r, hr, rfl⟩, ?_⟩)
    simp [RecA.key, hn, hq]
end
def lookRefs (s : St) (ops : Array Oper) (o : Oper) : List Nat := (o.looksAt ops).flatMap fun t => (s.ev (.tmp t)).refs
def lookWhole (s : St) (ops : Array Oper) (o : Oper) : Bool := (o.looksAt ops).all fun t => (s.ev (.tmp t)).whole
def relB (rl : List Nat) (dst : Option Tmp) : Bool := match dst with
  | some d => rl.contains d
  | none => false
def relE (rl : List Nat) (dst : Option Tmp) (s : St) (r : Eff × Option Nat) : Option (Eff × Option Nat) := if relB rl dst = true then (match r, dst with
    | (⟨.own n, some (n', .arr el z rows)⟩, some n''), some d => match s.m[n]?, s.t[d]? with
      | some _, some _ => if n = n' ∧ n = n'' then some (⟨.d (.sl rows), some (n, .arr el z [])⟩, some n) else none
      | _, _ => none
    | _, _ => none) else some r
def effA (P : Program) (rl : List Nat) (o : Oper) (s : St) (C : Eff → Option Nat → List Nat → Prop) : Prop := match o.op with
  | .call { callee := .builtin .append, args, argTypes } => match argTypes.toList, args.toList with
    | [t, t'], [a, x] => bindK (appOf P s o.dst t t' (s.ev a) (s.ev x)) fun r => bindK (relE rl o.dst s r) fun r => C r.1 r.2 ((s.ev a).refs ++ (s.ev x).refs ++ o.dst.toList)
    | _, _ => False
  | .buildSlice t len parts => if relB rl o.dst = true then (bindK o.dst fun d => bindK (opBuildSlice P s t len (parts.toList.map fun p => (p.1, s.ev p.2))) fun b =>
      AV.refsAll (parts.toList.map fun p => s.ev p.2) = [] ∧ s.fresh d = true ∧ match s.t[d]?, b with
        | some _, .arr _ _ rows => C ⟨.d (.sl rows), none⟩ none [d]
        | _, _ => False) else effK P o s fun e N => C e none N
  | _ => effK P o s fun e N => C e none N
def guardRunA (P : Program) (rl : List Nat) (t : AV) (want : Bool) (o : Oper) (s : St) (R : Eff → Option Nat → List Nat → Prop) : Prop := ∀ K' : Eff → Option Nat → List Nat → Prop, (∀ e k N, R e k N → K' e k N) → guardK t want (effA P rl o s K') (K' ⟨.void, none⟩ none [])
def runA (P : Program) (rl : List Nat) (ops : Array Oper) (B0 : List (Nat × List Nat)) : List Oper → Nat → List KeyA → St → (St → Prop) → Prop
  | [], _, acc, s, K => pairsA ops (inBoxes B0 acc.reverse) (masks ops.toList []) acc.reverse = true ∧ K s
  | o :: os, i, acc, s, K => dstOk o = true ∧ match guardT ops o with
    | none => False
    | some none => effA P rl o s fun e k N => runA P rl ops B0 os (i + 1) ((i, e.name, N, k, lookRefs s ops o ++ e.v.refs, lookWhole s ops o, boxE e) :: acc) (s.applyA o.dst e k) K
    | some (some (t, want)) => guardRunA P rl (s.ev (.tmp t)) want o s fun e k N => runA P rl ops B0 os (i + 1) ((i, e.name, N, k, lookRefs s ops o ++ e.v.refs, lookWhole s ops o, boxE e) :: acc) (s.applyA o.dst e k) K
section
variable {P : Program} {rd : Option Nat} {n : Nat} {J : Env} {k : Option Nat} {st : St} {ops : Array Oper} {Q : Exit → Option Nat → St → Prop} {o : Oper} {s : St}
theorem effA_spec {rl : List Nat} {C : Eff → Option Nat → List Nat → Prop} (h : effA P rl o s C) : ∃ e k N, (EffA P o s e k ∧ ∀ s' : St, (∀ x ∈ o.op.operands, s.ev x = s'.ev x) → s.t.length = s'.t.length → s.m.length = s'.m.length → Agree N s.m s'.m → EffA P o s' e k) ∧ C e k N := by
  unfold effA at h
  split at h
  · rename_i ho
    split at h
    · rename_i hts hargs
      obtain ⟨⟨e, k⟩, h1, ⟨e', k'⟩, hr, h3⟩ := h
      have e1 := toList_two hts
      have e2 := toList_two hargs
      subst e1; subst e2
      unfold relE at hr
      split at hr
      · split at hr
        · rename_i n n' el z rows n'' d hrr hdd
          split at hr
          · rename_i y1 y2 hm ht
            split at hr
            · rename_i hnn
              obtain ⟨rfl, rfl⟩ := hnn
              cases hrr
              cases hr
              have hl := (List.getElem?_eq_some_iff.1 hm).1
              have hdl := (List.getElem?_eq_some_iff.1 ht).1
              refine ⟨_, _, _, ⟨.appR _ _ _ _ d n el z rows hdd hl hdl ho h1, fun s' he htl hml hag => .appR _ _ _ _ d n el z rows hdd (by rw [← hml]; exact hl) (by rw [← htl]; exact hdl) ho ?_⟩, h3⟩
              rw [← he _ (by rw [ho]; simp [Op.operands, Call.operands]), ← he _ (by rw [ho]; simp [Op.operands, Call.operands]), ← appOf_local hag]
              exact h1
            · cases hr
          · cases hr
        · cases hr
      · cases hr
        refine ⟨e, k, _, ⟨.app _ _ _ _ e k ho h1, fun s' he _ _ hag => .app _ _ _ _ e k ho ?_⟩, h3⟩
        rw [← he _ (by rw [ho]; simp [Op.operands, Call.operands]), ← he _ (by rw [ho]; simp [Op.operands, Call.operands]), ← appOf_local hag]
        exact h1
    · exact h.elim
  · rename_i t len parts ho
    split at h
    · obtain ⟨d, hd, b, hb, hr, hf, h⟩ := h
      split at h
      · rename_i y e z rows ht
        have hdl := (List.getElem?_eq_some_iff.1 ht).1
        refine ⟨_, _, _, ⟨.litD d e z rows t len parts ho hd hf hdl hb hr, fun s' he htl _ hag => ?_⟩, h⟩
        have hev : ∀ p ∈ parts.toList, s.ev p.2 = s'.ev p.2 := fun p hp => he p.2 (by rw [ho]; simp only [Op.operands, List.mem_toArray, List.mem_map]; exact ⟨p, hp, rfl⟩)
        have e1 : (parts.toList.map fun p => (p.1, s'.ev p.2)) = parts.toList.map fun p => (p.1, s.ev p.2) := List.map_congr_left fun p hp => by rw [hev p hp]
        have e2 : (parts.toList.map fun p => s'.ev p.2) = parts.toList.map fun p => s.ev p.2 := List.map_congr_left fun p hp => by rw [hev p hp]
        have hps : (parts.toList.map fun p => (p.1, s.ev p.2)).map (·.2) = parts.toList.map fun p => s.ev p.2 := by simp [Function.comp_def]
        refine .litD d e z rows t len parts ho hd (by rw [← fresh_agree (hag d (by simp))]; exact hf) (by rw [← htl]; exact hdl) ?_ (by rw [e2]; exact hr)
        rw [e1, ← hb]
        unfold opBuildSlice
        rw [hps, hr]
        simp only [rowsOf_local (s := s') (s' := s) hr, St.arrs]
      · exact h.elim
    · obtain ⟨e, N, h1, h2⟩ := effK_spec h
      exact ⟨e, none, N, ⟨.old e h1.1, fun s' he _ _ hag => .old e (h1.2 s' he hag)⟩, h2⟩
  · obtain ⟨e, N, h1, h2⟩ := effK_spec h
    exact ⟨e, none, N, ⟨.old e h1.1, fun s' he _ _ hag => .old e (h1.2 s' he hag)⟩, h2⟩
theorem local_of {e : Eff} {k : Option Nat} {N : List Nat} {i : Nat} (h1 : EffGA P ops o s e k) (h2 : ∀ s' : St, (∀ t ∈ o.looksAt ops, s.ev (.tmp t) = s'.ev (.tmp t)) → s.t.length = s'.t.length → s.m.length = s'.m.length → Agree N s.m s'.m → EffGA P ops o s' e k) :
    LocalA P ops o s ⟨i, e, k, N, lookRefs s ops o ++ e.v.refs, lookWhole s ops o⟩ :=
  ⟨h1, h2, fun t ht n hn => List.mem_append_left _ (by simp only [lookRefs, List.mem_flatMap]; exact ⟨t, ht, hn⟩), fun hu t ht => by simp only [lookWhole, List.all_eq_true] at hu; exact hu t ht, fun n hn => List.mem_append_right _ hn⟩
theorem runA_chain {rl : List Nat} {B0 : List (Nat × List Nat)} : ∀ (os : List Oper) (i : Nat) (acc : List KeyA) (s : St) (K : St → Prop), (∀ j o, os[j]? = some o → ops[i + j]? = some o) → runA P rl ops B0 os i acc s K →
    ∃ rs s', ChainA P ops rs s s' ∧ rs.map (·.i) = List.range' i os.length ∧ pairsA ops (inBoxes B0 (acc.reverse ++ rs.map RecA.key)) (masks ops.toList []) (acc.reverse ++ rs.map RecA.key) = true ∧ K s'
  | [], i, acc, s, K, _, h => ⟨[], s, .nil s, rfl, by simpa using h.1, h.2⟩
  | o :: os, i, acc, s, K, hos, h => by
    obtain ⟨hd, h⟩ := h
    have hos' : ∀ j o', os[j]? = some o' → ops[i + 1 + j]? = some o' := fun j o' hj => by have := hos (j + 1) o' (by simpa using hj); rwa [show i + 1 + j = i + (j + 1) by omega]
    have ho : ops[i]? = some o := by simpa using hos 0 o (by simp)
    have fin : ∀ (e : Eff) (k : Option Nat) (N : List Nat), LocalA P ops o s ⟨i, e, k, N, lookRefs s ops o ++ e.v.refs, lookWhole s ops o⟩ →
        (∃ rs s', ChainA P ops rs (s.applyA o.dst e k) s' ∧ rs.map (·.i) = List.range' (i + 1) os.length ∧ pairsA ops (inBoxes B0 (((i, e.name, N, k, lookRefs s ops o ++ e.v.refs, lookWhole s ops o, boxE e) :: acc).reverse ++ rs.map RecA.key)) (masks ops.toList []) (((i, e.name, N, k, lookRefs s ops o ++ e.v.refs, lookWhole s ops o, boxE e) :: acc).reverse ++ rs.map RecA.key) = true ∧ K s') →
        ∃ rs s', ChainA P ops rs s s' ∧ rs.map (·.i) = List.range' i (o :: os).length ∧ pairsA ops (inBoxes B0 (acc.reverse ++ rs.map RecA.key)) (masks ops.toList []) (acc.reverse ++ rs.map RecA.key) = true ∧ K s' := by
      rintro e k N hl ⟨rs, s', h1, h2, h3, h4⟩
      refine ⟨⟨i, e, k, N, lookRefs s ops o ++ e.v.refs, lookWhole s ops o⟩ :: rs, s', .cons ho hd hl h1, by simp [h2, List.range'_succ], ?_, h4⟩
      simpa [RecA.key] using h3
    cases hg : guardT ops o with
    | none => rw [hg] at h; exact h.elim
    | some g =>
      rw [hg] at h
      cases g with
      | none =>
        obtain ⟨e, k, N, ⟨h1, h1'⟩, h2⟩ := effA_spec h
        refine fin e k N (local_of (by simp only [EffGA, hg]; exact h1) fun s' he htl hml ha => ?_) (runA_chain os (i + 1) _ _ K hos' h2)
        simp only [EffGA, hg]
        exact h1' s' (ev_looks he) htl hml ha
      | some tw =>
        obtain ⟨t, want⟩ := tw
        obtain ⟨j, hj, ht⟩ := guardT_some hg
        have hmem : t ∈ o.looksAt ops := List.mem_append_right _ (by rw [hj]; simp [ht])
        have h := h _ fun e k N hs => runA_chain os (i + 1) _ _ K hos' hs
        unfold guardK at h
        split at h
        · rename_i b hev
          by_cases hb : b = want
          · obtain ⟨e, k, N, ⟨h1, h1'⟩, h2⟩ := effA_spec (h.1 hb)
            refine fin e k N (local_of (by simp only [EffGA, hg]; exact .inl ⟨by rw [hev, hb], h1⟩) fun s' he htl hml ha => ?_) h2
            simp only [EffGA, hg]
            exact .inl ⟨by rw [← he t hmem, hev, hb], h1' s' (ev_looks he) htl hml ha⟩
          · have hb' : b = !want := by cases b <;> cases want <;> simp_all
            refine fin _ _ _ (local_of (by unfold EffGA; rw [hg]; exact .inr ⟨.inl (by rw [hev, hb']), rfl, rfl⟩) fun s' he htl hml ha => ?_) (h.2 hb')
            unfold EffGA; rw [hg]
            exact .inr ⟨.inl (by rw [← he t hmem, hev, hb']), rfl, rfl⟩
        · rename_i hev
          refine fin _ _ _ (local_of (by unfold EffGA; rw [hg]; exact .inr ⟨.inr hev, rfl, rfl⟩) fun s' he htl hml ha => ?_) h
          unfold EffGA; rw [hg]
          exact .inr ⟨.inr (by rw [← he t hmem, hev]), rfl, rfl⟩
        · exact h.elim
theorem walk_drawnA {rl : List Nat} {id : Nat} (hfol : P.follows .mixedOrders = true) (hback : backB ops = true) (h : runA P rl ops (boxTab st.m 0) ops.toList 0 [] st (Q .normal k)) : Walk P rd n J (.region id ops true) k st Q := fun B base out μ tmps w ds _ hst hJ hM => by
  obtain ⟨rs, s', h1, h2, h3, h4⟩ := runA_chain _ _ _ _ _ (fun j o hj => by simpa using hj) h
  simp only [List.reverse_nil, List.nil_append] at h3
  have hfree := inBoxes_spec (s := st) rs
  refine region_drawG (ix := RecA.i) (I := fun a b => indepA ops (inBoxes (boxTab st.m 0) (rs.map RecA.key)) a.key b.key = true) (C := FreeChain P ops (inBoxes (boxTab st.m 0) (rs.map RecA.key)) (killsOf rs)) (fun s s' h => by obtain ⟨_, _, h⟩ := h; cases h; rfl) ?_ ?_ hfol hback (by rw [h2, List.range_eq_range']; simp)
    (pairsA_spec (fun k i => masks_spec ops.toList [] (fun k i hk => by simp at hk) (fun k o hk => by simpa using hk) k i) h3) ⟨hfree.1, hfree.2, h1⟩ hst fun tmps' μ' w' h5 hk hS => .step hJ h5 hk hS hM h4
  · rintro r rs' s s' ⟨hF, hR, hc⟩
    cases hc with
    | cons ho hd hl ht => exact ⟨_, _, ho, hd, hl.eff.step, hF.apply (hR r (by simp)).2, fun q hq => hR q (by simp [hq]), ht⟩
  · rintro r B s s' A hA ⟨hF, hR, hc⟩
    refine ⟨hF, fun q hq => hR q ?_, bubbleA (hR r (by simp)) A s hF (fun a ha => hR a (by simp [ha])) hA hc⟩
    simp only [List.mem_cons, List.mem_append] at hq ⊢
    rcases hq with rfl | hq | hq
    · exact .inr (.inl rfl)
    · exact .inl hq
    · exact .inr (.inr hq)
theorem walkL_drawnR {id : Nat} {cs : List Code} (rl : List Nat) (hfol : P.follows .mixedOrders = true) (hback : backB ops = true) (h : ∀ K : St → Prop, (∀ s, WalkL P rd n J cs k s Q → K s) → runA P rl ops (boxTab st.m 0) ops.toList 0 [] st K) : WalkL P rd n J (.region id ops true :: cs) k st Q :=
  walk_drawnA hfol hback (h _ fun _ h => h)
theorem walkL_drawnA {id : Nat} {cs : List Code} (hfol : P.follows .mixedOrders = true) (hback : backB ops = true) (h : ∀ K : St → Prop, (∀ s, WalkL P rd n J cs k s Q → K s) → runA P [] ops (boxTab st.m 0) ops.toList 0 [] st K) : WalkL P rd n J (.region id ops true :: cs) k st Q :=
  walkL_drawnR [] hfol hback h
end
def oldA (C : Eff → Option Nat → List Nat → Prop) (e : Eff) (N : List Nat) : Prop := C e none N
theorem effA_eq (P : Program) (rl : List Nat) (o : Oper) (s : St) (C : Eff → Option Nat → List Nat → Prop) : effA P rl o s C = (match o.op with
  | .call { callee := .builtin .append, args, argTypes } => match argTypes.toList, args.toList with
    | [t, t'], [a, x] => bindK (appOf P s o.dst t t' (s.ev a) (s.ev x)) fun r => bindK (relE rl o.dst s r) fun r => C r.1 r.2 ((s.ev a).refs ++ (s.ev x).refs ++ o.dst.toList)
    | _, _ => False
  | .buildSlice t len parts => if relB rl o.dst = true then (bindK o.dst fun d => bindK (opBuildSlice P s t len (parts.toList.map fun p => (p.1, s.ev p.2))) fun b =>
      AV.refsAll (parts.toList.map fun p => s.ev p.2) = [] ∧ s.fresh d = true ∧ match s.t[d]?, b with
        | some _, .arr _ _ rows => C ⟨.d (.sl rows), none⟩ none [d]
        | _, _ => False) else effK P o s (oldA C)
  | _ => effK P o s (oldA C)) := rfl
theorem effA_mono {P : Program} {rl : List Nat} {o : Oper} {s : St} {C C' : Eff → Option Nat → List Nat → Prop} (h : effA P rl o s C) (hC : ∀ e k N, C e k N → C' e k N) : effA P rl o s C' := by
  unfold effA at h ⊢
  split
  · rename_i ho
    simp only [ho] at h
    split at h
    · obtain ⟨r, h1, r', h2, h3⟩ := h
      exact ⟨r, h1, r', h2, hC _ _ _ h3⟩
    · exact h.elim
  · rename_i ho
    simp only [ho] at h
    split at h
    · rename_i hr
      rw [if_pos hr]
      obtain ⟨d, hd, b, hb, h1, h2, h3⟩ := h
      refine ⟨d, hd, b, hb, h1, h2, ?_⟩
      split at h3
      · exact hC _ _ _ h3
      · exact h3.elim
    · rename_i hr
      rw [if_neg hr]
      exact effK_mono h fun e N hc => hC _ _ _ hc
  · rename_i hno hno2
    split at h
    · rename_i ho; exact absurd ho (hno _ _)
    · rename_i ho; exact absurd ho (hno2 _ _ _)
    · exact effK_mono h fun e N hc => hC _ _ _ hc
theorem guardRunA_tt (P : Program) (rl : List Nat) (o : Oper) (s : St) (R : Eff → Option Nat → List Nat → Prop) : guardRunA P rl (.d (.bool true)) true o s R = effA P rl o s R := by
  apply propext
  exact ⟨fun h => (h R (fun _ _ _ h => h)).1 rfl, fun h K' hK => ⟨fun _ => effA_mono h hK, fun e => (by cases e)⟩⟩
theorem guardRunA_ff (P : Program) (rl : List Nat) (o : Oper) (s : St) (R : Eff → Option Nat → List Nat → Prop) : guardRunA P rl (.d (.bool false)) false o s R = effA P rl o s R := by
  apply propext
  exact ⟨fun h => (h R (fun _ _ _ h => h)).1 rfl, fun h K' hK => ⟨fun _ => effA_mono h hK, fun e => (by cases e)⟩⟩
theorem guardRunA_tf (P : Program) (rl : List Nat) (o : Oper) (s : St) (R : Eff → Option Nat → List Nat → Prop) : guardRunA P rl (.d (.bool true)) false o s R = R ⟨.void, none⟩ none [] := by
  apply propext
  exact ⟨fun h => (h R (fun _ _ _ h => h)).2 rfl, fun h K' hK => ⟨fun e => (by cases e), fun _ => hK _ _ _ h⟩⟩
theorem guardRunA_ft (P : Program) (rl : List Nat) (o : Oper) (s : St) (R : Eff → Option Nat → List Nat → Prop) : guardRunA P rl (.d (.bool false)) true o s R = R ⟨.void, none⟩ none [] := by
  apply propext
  exact ⟨fun h => (h R (fun _ _ _ h => h)).2 rfl, fun h K' hK => ⟨fun e => (by cases e), fun _ => hK _ _ _ h⟩⟩
theorem guardRunA_void (P : Program) (rl : List Nat) (want : Bool) (o : Oper) (s : St) (R : Eff → Option Nat → List Nat → Prop) : guardRunA P rl .void want o s R = R ⟨.void, none⟩ none [] := by
  apply propext
  exact ⟨fun h => h R (fun _ _ _ h => h), fun h K' hK => hK _ _ _ h⟩
def contA (P : Program) (rl : List Nat) (ops : Array Oper) (B0 : List (Nat × List Nat)) (os : List Oper) (i : Nat) (acc : List KeyA) (s : St) (o : Oper) (K : St → Prop) (e : Eff) (k : Option Nat) (N : List Nat) : Prop :=
  runA P rl ops B0 os (i + 1) ((i, e.name, N, k, lookRefs s ops o ++ e.v.refs, lookWhole s ops o, boxE e) :: acc) (s.applyA o.dst e k) K
theorem runA_nil (P : Program) (rl : List Nat) (ops : Array Oper) (B0 : List (Nat × List Nat)) (i : Nat) (acc : List KeyA) (s : St) (K : St → Prop) : runA P rl ops B0 [] i acc s K = (pairsA ops (inBoxes B0 acc.reverse) (masks ops.toList []) acc.reverse = true ∧ K s) := rfl
theorem runA_cons (P : Program) (rl : List Nat) (ops : Array Oper) (B0 : List (Nat × List Nat)) (o : Oper) (os : List Oper) (i : Nat) (acc : List KeyA) (x : AV) (t : List AV) (m : List (Option Blk)) (K : St → Prop) : runA P rl ops B0 (o :: os) i acc ⟨x :: t, m⟩ K = (dstOk o = true ∧ match guardT ops o with
    | none => False
    | some none => effA P rl o ⟨x :: t, m⟩ (contA P rl ops B0 os i acc ⟨x :: t, m⟩ o K)
    | some (some (t', want)) => guardRunA P rl ((⟨x :: t, m⟩ : St).ev (.tmp t')) want o ⟨x :: t, m⟩ (contA P rl ops B0 os i acc ⟨x :: t, m⟩ o K)) := rfl
theorem killT_none (t : List AV) : killT none t = t := rfl
theorem killT_some (n : Nat) (t : List AV) : killT (some n) t = t.map (AV.sub n fun _ => .undef) := rfl
theorem killM_none (m : List (Option Blk)) : killM none m = m := rfl
theorem killM_some (n : Nat) (m : List (Option Blk)) : killM (some n) m = subMem n (fun _ => .undef) m := rfl
theorem relE_nil (dst : Option Tmp) (s : St) (r : Eff × Option Nat) : relE [] dst s r = some r := by cases dst <;> rfl
theorem relB_nil (dst : Option Tmp) : relB [] dst = false := by cases dst <;> rfl
theorem relB_some (rl : List Nat) (d : Tmp) : relB rl (some d) = rl.contains d := rfl
attribute [go_sem] relE_nil relB_nil relB_some relE List.contains_nil
attribute [go_sem] List.contains_cons runA_nil runA_cons contA oldA effA_eq appOf boxTab killM_none killM_some St.applyA killT_none killT_some guardRunA_tt guardRunA_ff guardRunA_tf guardRunA_ft guardRunA_void
theorem CallR.made {P : Program} {st : St} {dst : Option Tmp} {g : FuncId} {xs : List AV} {ds : List DV} {r : AV} {m1 : List Blk} (news : List Nat) (hf : FnG P g [] [] (ds.map AV.d) r m1) (hd : reifyAll st xs = some ds) (hn : news.Nodup) (hl : news.length = m1.length)
    (hnew : news.all st.fresh = true) (hx : AV.refsAll xs = []) : CallR P st dst g xs (({ st with m := putM news (m1.map (Blk.mapN fun i => news[i]?)) st.m } : St).put dst (r.mapN fun i => news[i]?)) := by
  obtain ⟨h1, h2⟩ := allSome_spec hd
  have := CallR.gen (dst := dst) (st := st) (xs := xs) [] [] (ds.map AV.d) r m1 [] news [] [] hf (by simpa using hn) rfl (by simpa using hl) (by intro i b h; simp at h) (fun n hn => fresh_spec (List.all_eq_true.1 hnew n hn)) (by simpa using h1) (fun i x y hi hy => by
    simp only [List.getElem?_map, Option.map_eq_some_iff] at hy
    obtain ⟨d, hy, rfl⟩ := hy
    have h3 := h2 i d hy
    simp only [List.getElem?_map, Option.map_eq_some_iff] at h3
    obtain ⟨x', hx', hr⟩ := h3
    rw [hi] at hx'
    cases hx'
    refine .inl ⟨d, rfl, hr, fun n hn => ?_⟩
    have := refsAll_nil hx (List.mem_of_getElem? hi)
    rw [this] at hn
    cases hn) (by simp) (by intro n hn; simp at hn) (by intro i n h; simp at h) (.inl rfl)
  exact this
theorem weak_release (l : List Nat) (st : St) : Weak st (releaseAll l st) := by
  intro P base out μ tmps w h
  obtain ⟨μ', h1, _, _, h2, _⟩ := releaseAll_sound l st μ h
  exact ⟨μ', h1, h2⟩
theorem walkL_release {P : Program} {rd : Option Nat} {n : Nat} {J : Env} {c : Code} {cs : List Code} {k : Option Nat} {st : St} {Q : Exit → Option Nat → St → Prop} (l : List Nat) (h : WalkL P rd n J (c :: cs) k (releaseAll l st) Q) : WalkL P rd n J (c :: cs) k st Q :=
  walkL_weak (weak_release l st) h
theorem CallR.inPlace {P : Program} {st : St} {dst : Option Tmp} {g : FuncId} {xs : List AV} (n : Nat) {b0 b0' b1 : Blk} {args : List AV} {r : AV} (hf : FnG P g [b0] [0] args r [b1]) (hn : st.m[n]? = some (some b0')) (hb : b0 = b0'.mapN (inv [n])) (hla : xs.length = args.length)
    (ha : ∀ (i : Nat) x y, xs[i]? = some x → args[i]? = some y → argG st [n] [] x y) : CallR P st dst g xs (({ st with m := st.m.set n (some (b1.mapN fun i => [n][i]?)) } : St).put dst (r.mapN fun i => [n][i]?)) := by
  have := CallR.gen (dst := dst) (st := st) [b0] [0] args r [b1] [n] [] [] [] hf (by simp) rfl rfl (fun i b hi => by
    cases i with
    | zero => cases hi; exact ⟨n, b0', rfl, hn, hb⟩
    | succ i => simp at hi) (by simp) hla ha (by simp) (by intro n hn; simp at hn) (fun i k hi _ => by
    cases i with
    | zero => simp
    | succ i => simp at hi) (.inl rfl)
  exact this
end Go.Ab
/- Arrays of which the room is asked: full, or with room behind; and arrays with room that settle. -/
namespace Go.Ab
open Go.RowKit
def roomed (len : Nat) : AV → AV
  | .own n => .vc n len
  | .view n off k => .view n off k
  | .elem n i o => .elem n i o
  | _ => .undef
def fulled (e : TypeId) (z : Nat) (rows : List (List DV)) : AV → AV
  | .own _ => .dfull rows
  | y => snapLeaf (.arr e z rows) y
def settled (len : Nat) : AV → AV
  | .vh n k => if k = len then .own n else .undef
  | .view n off k => if off + k ≤ len then .view n off k else .undef
  | .elem n i o => .elem n i o
  | _ => .undef
def St.roomed (n : Nat) (st : St) : St := match (st.m[n]? : Option (Option Blk)) with
  | some (some (.arr e z rows)) => { t := st.t.map (AV.sub n (Ab.roomed rows.length)), m := (subMem n (Ab.roomed rows.length) st.m).set n (some (.arrP e z rows)) }
  | _ => st
def St.fulled (n : Nat) (st : St) : St := match (st.m[n]? : Option (Option Blk)) with
  | some (some (.arr e z rows)) => { t := st.t.map (AV.sub n (Ab.fulled e z rows)), m := subMem n (Ab.fulled e z rows) (st.m.set n none) }
  | _ => st
def St.settle (n : Nat) (st : St) : St := match (st.m[n]? : Option (Option Blk)) with
  | some (some (.arrP e z rows)) => { t := st.t.map (AV.sub n (settled rows.length)), m := (subMem n (settled rows.length) st.m).set n (some (.arr e z rows)) }
  | _ => st
theorem subMem_len (n : Nat) (f : AV → AV) : ∀ m : List (Option Blk), (subMem n f m).length = m.length
  | [] => rfl
  | none :: l => by simp [subMem, subMem_len n f l]
  | some _ :: l => by simp [subMem, subMem_len n f l]
section
variable {P : Program} {base : Own} {out : Own} {st st' : St} {μ : Pl} {tmps : Array Value} {w w' : World}
theorem own_upd {n b z l c l' c' : Nat} (hμ : μ n = some (.at b z l c)) : ∀ q, ownOf out (μ.upd n (some (.at b z l' c'))) q → ownOf out μ q := by
  rintro q (hq | ⟨k, z2, l2, c2, hq⟩)
  · exact .inl hq
  · by_cases hk : k = n
    · subst hk; rw [Pl.upd_same] at hq; cases hq; exact .inr ⟨k, _, _, _, hμ⟩
    · rw [Pl.upd_ne μ _ hk] at hq; exact .inr ⟨k, z2, l2, c2, hq⟩
theorem caps_of (h : StRel P base out st μ tmps w) {n : Nat} {e : TypeId} {z : Nat} {rows : List (List DV)} (hn : st.m[n]? = some (some (.arr e z rows))) (hr : rows ≠ []) :
    (∃ μ', StRel P base out (st.fulled n) μ' tmps w ∧ ∀ b, ownOf out μ' b → ownOf out μ b) ∨ (∃ μ', StRel P base out (st.roomed n) μ' tmps w ∧ ∀ b, ownOf out μ' b → ownOf out μ b) := by
  rcases h.mem.arr hn with ⟨_, h0⟩ | ⟨b, cap, cs, hμ, hh, hle, hcm, hcs, hz, hd⟩
  · exact absurd h0 hr
  have hlt : n < st.m.length := (List.getElem?_eq_some_iff.1 hn).1
  rcases Nat.eq_or_lt_of_le hle with heq | hroom
  · left
    unfold St.fulled
    rw [hn]
    have hown : ∀ k, ownOf out (μ.upd n none) k → ownOf out μ k := by
      rintro k (hk | ⟨a, z, l, c, ha⟩)
      · exact .inl hk
      · by_cases han : a = n
        · subst han; rw [Pl.upd_same] at ha; cases ha
        · rw [Pl.upd_ne μ _ han] at ha; exact .inr ⟨a, z, l, c, ha⟩
    refine ⟨μ.upd n none, ?_, hown⟩
    refine h.turn (n := n) (f := fulled e z rows) (fun k o v h1 h2 => ⟨fun hc => h1 (hown k hc), h2⟩) (fun k hk => Pl.upd_ne μ _ hk) ?_ (fun _ _ _ _ _ _ _ => rfl) (Nat.le_refl _)
      (fun k hk => by rw [subMem_get, List.getElem?_set_ne (Ne.symm hk)]) (fun b' hb' => by rw [subMem_get] at hb'; simp [hlt] at hb') (fun hs => by rw [Pl.upd_same] at hs; cases hs)
      (fun b z l c hc => by rw [Pl.upd_same] at hc; cases hc)
    intro y u hy hr
    have deepen : ∀ d, leaf st.m y = some d → DRel w (ownOf out (μ.upd n none)) d u := fun d hd => by
      refine leaf_sound h.mem _ hown (· = n) (fun k b z l c hk hpl hc => ?_) hr hd ?_
      · subst hk
        rcases hc with hc | ⟨a, z', l', c', ha⟩
        · exact absurd hc (h.mem.base k b z l c hpl).2.2
        · by_cases hak : a = k
          · subst hak; rw [Pl.upd_same] at ha; cases ha
          · rw [Pl.upd_ne μ _ hak] at ha
            exact hak (h.mem.inj a k _ _ _ _ _ _ _ ha hpl)
      · cases y <;> simp_all [AV.name?, AV.refs]
    cases y <;> simp only [AV.name?, Option.some.injEq, reduceCtorEq] at hy <;> subst hy <;> simp only [fulled, snapLeaf] <;> try exact .undef _
    · split
      · rename_i r hr'
        exact .d (deepen _ (by simp [leaf, hn, hr']))
      · exact .undef _
    · have hd := deepen (.sl rows) (by simp [leaf, hn])
      rcases inv_own hr with ⟨h1, _⟩ | ⟨b2, z2, l2, c2, h1, rfl⟩
      · rw [hμ] at h1; cases h1
      · rw [hμ] at h1; cases h1
        rw [← heq] at hd ⊢
        exact .dfull hd
    · split
      · rename_i hle2
        exact .d (deepen _ (by simp [leaf, hn, hle2]))
      · exact .undef _
  · right
    unfold St.roomed
    rw [hn]
    have hsub := own_upd (out := out) (l' := cap) (c' := cap) hμ
    have hg : Goes w (ownOf out μ) w (ownOf out (μ.upd n (some (.at b z cap cap)))) := fun q o v h1 h2 => ⟨fun hc => h1 (hsub q hc), h2⟩
    refine ⟨μ.upd n (some (.at b z cap cap)), ?_, hsub⟩
    refine h.turn (n := n) (f := roomed rows.length) hg (fun k hk => Pl.upd_ne μ _ hk) (fun y u hy hr => ?_) (fun _ _ _ _ _ _ _ => rfl) (Nat.le_refl _)
      (fun k hk => by rw [List.getElem?_set_ne (Ne.symm hk), subMem_get]) (fun b' hb' => ?_) (fun _ => ⟨.arrP e z rows, by rw [List.getElem?_set_self (by rw [subMem_len]; exact hlt)]⟩) (fun b' z' l c hb' => ?_)
    · cases y <;> simp only [AV.name?, Option.some.injEq, reduceCtorEq] at hy <;> subst hy <;> simp only [roomed] <;> try exact .undef _
      · rename_i k i off
        obtain ⟨b2, z2, l2, c2, h1, rfl⟩ := inv_elem hr
        rw [hμ] at h1; cases h1
        exact .elem i off (Pl.upd_same μ _ _)
      · rename_i k
        rcases inv_own hr with ⟨h1, _⟩ | ⟨b2, z2, l2, c2, h1, rfl⟩
        · rw [hμ] at h1; cases h1
        · rw [hμ] at h1; cases h1
          exact .vc _ (Pl.upd_same μ _ _) hroom
      · rename_i k off len
        cases hr with
        | view _ _ _ cap2 a hs hle2 hn2 hv =>
          refine .view k off len cap2 a (by rw [Pl.upd_same]; rfl) hle2 hn2 fun hp => ?_
          obtain ⟨b2, z2, l2, c2, h1, h2, h3, h4⟩ := hv hp
          rw [hμ] at h1; cases h1
          exact ⟨b, z, cap, cap, Pl.upd_same μ _ _, h2, by omega, h4⟩
    · rw [List.getElem?_set_self (by rw [subMem_len]; exact hlt)] at hb'
      cases hb'
      exact ⟨b, cap, cs, Pl.upd_same μ n _, hh, hle, hcm, hcs, hz, fun i r j d h1 h2 => let ⟨v, p, q, r⟩ := hd i r j d h1 h2; ⟨v, p, q, r.goes hg⟩⟩
    · rw [Pl.upd_same] at hb'; cases hb'
      exact ⟨h.mem.base n b _ _ _ hμ, fun k z' l' c' hk hc => hk (h.mem.inj k n b _ _ _ _ _ _ hc hμ)⟩
theorem weak_settle (n : Nat) (st : St) : Weak st (st.settle n) := by
  intro P base out μ tmps w h
  unfold St.settle
  split
  · rename_i e z rows hn
    obtain ⟨b, cap, cs, hμ, hh, hle, hcm, hcs, hz, hd⟩ := h.mem.arrP hn
    have hlt : n < st.m.length := (List.getElem?_eq_some_iff.1 hn).1
    have hsub := own_upd (out := out) (l' := rows.length) (c' := cap) hμ
    have hg : Goes w (ownOf out μ) w (ownOf out (μ.upd n (some (.at b z rows.length cap)))) := fun q o v h1 h2 => ⟨fun hc => h1 (hsub q hc), h2⟩
    refine ⟨μ.upd n (some (.at b z rows.length cap)), ?_, hsub⟩
    refine h.turn (n := n) (f := settled rows.length) hg (fun k hk => Pl.upd_ne μ _ hk) (fun y u hy hr => ?_) (fun _ _ _ _ _ _ _ => rfl) (Nat.le_refl _)
      (fun k hk => by rw [List.getElem?_set_ne (Ne.symm hk), subMem_get]) (fun b' hb' => ?_) (fun _ => ⟨.arr e z rows, by rw [List.getElem?_set_self (by rw [subMem_len]; exact hlt)]⟩) (fun b' z' l c hb' => ?_)
    · cases y <;> simp only [AV.name?, Option.some.injEq, reduceCtorEq] at hy <;> subst hy <;> simp only [settled] <;> try exact .undef _
      · rename_i k i off
        obtain ⟨b2, z2, l2, c2, h1, rfl⟩ := inv_elem hr
        rw [hμ] at h1; cases h1
        exact .elem i off (Pl.upd_same μ _ _)
      · rename_i k off len
        split
        · rename_i hfit
          cases hr with
          | view _ _ _ cap2 a hs hle2 hn2 hv =>
            refine .view k off len cap2 a (by rw [Pl.upd_same]; rfl) hle2 hn2 fun hp => ?_
            obtain ⟨b2, z2, l2, c2, h1, h2, h3, h4⟩ := hv hp
            rw [hμ] at h1; cases h1
            exact ⟨b, z, rows.length, cap, Pl.upd_same μ _ _, h2, hfit, h4⟩
        · exact .undef _
      · rename_i k len
        split
        · rename_i hl
          subst hl
          cases hr with
          | vh _ h1 hle2 =>
            rw [hμ] at h1; cases h1
            exact .own (Pl.upd_same μ _ _)
        · exact .undef _
    · rw [List.getElem?_set_self (by rw [subMem_len]; exact hlt)] at hb'
      cases hb'
      exact .inr ⟨b, cap, cs, Pl.upd_same μ n _, hh, hle, hcm, hcs, hz, fun i r j d h1 h2 => let ⟨v, p, q, r⟩ := hd i r j d h1 h2; ⟨v, p, q, r.goes hg⟩⟩
    · rw [Pl.upd_same] at hb'; cases hb'
      exact ⟨h.mem.base n b _ _ _ hμ, fun k z' l' c' hk hc => hk (h.mem.inj k n b _ _ _ _ _ _ hc hμ)⟩
  · exact ⟨μ, h, fun _ hb => hb⟩
end
theorem walkL_caps {P : Program} {rd : Option Nat} {n : Nat} {J : Env} {c : Code} {cs : List Code} {k : Option Nat} {st : St} {Q : Exit → Option Nat → St → Prop} (a : Nat) {e : TypeId} {z : Nat} {rows : List (List DV)}
    (hn : st.m[a]? = some (some (.arr e z rows))) (hr : rows ≠ [])
    (h1 : WalkL P rd n J (c :: cs) k (st.fulled a) Q) (h2 : WalkL P rd n J (c :: cs) k (st.roomed a) Q) : WalkL P rd n J (c :: cs) k st Q := fun B base out μ tmps w ds hO hA hJ hM => by
  rcases caps_of hA hn hr with ⟨μ', hA', hsub⟩ | ⟨μ', hA', hsub⟩
  · refine wpIn_mono (h1 B base out μ' tmps w ds hO hA' hJ (hM.stays (.less hsub))) fun e a w' he => ?_
    exact he.andThen (D := []) (.less hsub) (Same.refl _ _) (fun _ h => by cases h) (fun _ h => h)
  · refine wpIn_mono (h2 B base out μ' tmps w ds hO hA' hJ (hM.stays (.less hsub))) fun e a w' he => ?_
    exact he.andThen (D := []) (.less hsub) (Same.refl _ _) (fun _ h => by cases h) (fun _ h => h)
theorem walkL_settle {P : Program} {rd : Option Nat} {n : Nat} {J : Env} {c : Code} {cs : List Code} {k : Option Nat} {st : St} {Q : Exit → Option Nat → St → Prop} (a : Nat) (h : WalkL P rd n J (c :: cs) k (st.settle a) Q) : WalkL P rd n J (c :: cs) k st Q :=
  walkL_weak (weak_settle a st) h
theorem walk_post {P : Program} {rd : Option Nat} {n : Nat} {J : Env} {c : Code} {k : Option Nat} {st : St} {Q : Exit → Option Nat → St → Prop} (h : Walk P rd n J c k st (fun e k s => ∃ s', Weak s s' ∧ Q e k s')) : Walk P rd n J c k st Q := fun B base out μ tmps w ds hO hA hJ hM => wpIn_mono (h B base out μ tmps w ds hO hA hJ hM) fun e a w' he => by
  obtain ⟨k', st', base', out', μ', h1, h2, h3, h4, h5, s', hw, hq⟩ := he
  obtain ⟨μ2, h6, hsub⟩ := hw P base' out' μ' a.tmps w' h1
  exact ⟨k', s', base', out', μ2, h6, h2, h3.stays (.less hsub), h4.trans (.less hsub), h5, hq⟩
theorem walkL_post {P : Program} {rd : Option Nat} {n : Nat} {J : Env} {c : Code} {k : Option Nat} {st : St} {Q : Exit → Option Nat → St → Prop} (h : WalkL P rd n J [c] k st (fun e k s => ∃ s', Weak s s' ∧ Q e k s')) : WalkL P rd n J [c] k st Q :=
  walk_mono (walk_post (walkL_one h)) fun e k s hq => by cases e <;> exact hq
attribute [go_sem] St.roomed St.fulled St.settle roomed fulled settled opSlice3
end Go.Ab
/- The program's type table, as the engine asks for it. -/
namespace Go.Ab
open Go.RowKit Go.Proofs
theorem tab_tsz_0 : tsz Try.prog 0 = (some 1) := by kernel_rfl
attribute [go_sem] tab_tsz_0
theorem tab_tbytes_0 : tbytes Try.prog 0 = (some 0) := by kernel_rfl
attribute [go_sem] tab_tbytes_0
theorem tab_tagg_0 : tagg Try.prog 0 = (some false) := by kernel_rfl
attribute [go_sem] tab_tagg_0
theorem tab_tsz_1 : tsz Try.prog 1 = (some 1) := by kernel_rfl
attribute [go_sem] tab_tsz_1
theorem tab_tbytes_1 : tbytes Try.prog 1 = (some 8) := by kernel_rfl
attribute [go_sem] tab_tbytes_1
theorem tab_tagg_1 : tagg Try.prog 1 = (some false) := by kernel_rfl
attribute [go_sem] tab_tagg_1
theorem tab_tsz_2 : tsz Try.prog 2 = (some 1) := by kernel_rfl
attribute [go_sem] tab_tsz_2
theorem tab_tbytes_2 : tbytes Try.prog 2 = (some 8) := by kernel_rfl
attribute [go_sem] tab_tbytes_2
theorem tab_tagg_2 : tagg Try.prog 2 = (some false) := by kernel_rfl
attribute [go_sem] tab_tagg_2
theorem tab_tint_2 : tint Try.prog 2 = (some IntKind.i64) := by kernel_rfl
attribute [go_sem] tab_tint_2
theorem tab_tsz_3 : tsz Try.prog 3 = (some 1) := by kernel_rfl
attribute [go_sem] tab_tsz_3
theorem tab_tbytes_3 : tbytes Try.prog 3 = (some 8) := by kernel_rfl
attribute [go_sem] tab_tbytes_3
theorem tab_tagg_3 : tagg Try.prog 3 = (some false) := by kernel_rfl
attribute [go_sem] tab_tagg_3
theorem tab_tint_3 : tint Try.prog 3 = (some IntKind.i64) := by kernel_rfl
attribute [go_sem] tab_tint_3
theorem tab_tsz_4 : tsz Try.prog 4 = (some 1) := by kernel_rfl
attribute [go_sem] tab_tsz_4
theorem tab_tbytes_4 : tbytes Try.prog 4 = (some 1) := by kernel_rfl
attribute [go_sem] tab_tbytes_4
theorem tab_tagg_4 : tagg Try.prog 4 = (some false) := by kernel_rfl
attribute [go_sem] tab_tagg_4
theorem tab_tsz_5 : tsz Try.prog 5 = (some 1) := by kernel_rfl
attribute [go_sem] tab_tsz_5
theorem tab_tbytes_5 : tbytes Try.prog 5 = (some 1) := by kernel_rfl
attribute [go_sem] tab_tbytes_5
theorem tab_tagg_5 : tagg Try.prog 5 = (some false) := by kernel_rfl
attribute [go_sem] tab_tagg_5
theorem tab_tint_5 : tint Try.prog 5 = (some IntKind.u8) := by kernel_rfl
attribute [go_sem] tab_tint_5
theorem tab_tsz_6 : tsz Try.prog 6 = (some 1) := by kernel_rfl
attribute [go_sem] tab_tsz_6
theorem tab_tbytes_6 : tbytes Try.prog 6 = (some 1) := by kernel_rfl
attribute [go_sem] tab_tbytes_6
theorem tab_tagg_6 : tagg Try.prog 6 = (some false) := by kernel_rfl
attribute [go_sem] tab_tagg_6
theorem tab_tint_6 : tint Try.prog 6 = (some IntKind.u8) := by kernel_rfl
attribute [go_sem] tab_tint_6
theorem tab_tsz_7 : tsz Try.prog 7 = (some 4) := by kernel_rfl
attribute [go_sem] tab_tsz_7
theorem tab_tbytes_7 : tbytes Try.prog 7 = (some 24) := by kernel_rfl
attribute [go_sem] tab_tbytes_7
theorem tab_tagg_7 : tagg Try.prog 7 = (some true) := by kernel_rfl
attribute [go_sem] tab_tagg_7
theorem tab_tfields_7 : tfields Try.prog 7 = (some [(0, (1, false)), (1, (1, false)), (2, (1, false)), (3, (1, false))]) := by kernel_rfl
attribute [go_sem] tab_tfields_7
theorem tab_teq_7 : teq Try.prog 7 = (some [(0, false), (1, false), (2, true), (3, false)]) := by kernel_rfl
attribute [go_sem] tab_teq_7
theorem tab_tsz_8 : tsz Try.prog 8 = (some 4) := by kernel_rfl
attribute [go_sem] tab_tsz_8
theorem tab_tbytes_8 : tbytes Try.prog 8 = (some 24) := by kernel_rfl
attribute [go_sem] tab_tbytes_8
theorem tab_tagg_8 : tagg Try.prog 8 = (some true) := by kernel_rfl
attribute [go_sem] tab_tagg_8
theorem tab_tfields_8 : tfields Try.prog 8 = (some [(0, (1, false)), (1, (1, false)), (2, (1, false)), (3, (1, false))]) := by kernel_rfl
attribute [go_sem] tab_tfields_8
theorem tab_teq_8 : teq Try.prog 8 = (some [(0, false), (1, false), (2, true), (3, false)]) := by kernel_rfl
attribute [go_sem] tab_teq_8
theorem tab_tsz_9 : tsz Try.prog 9 = (some 1) := by kernel_rfl
attribute [go_sem] tab_tsz_9
theorem tab_tbytes_9 : tbytes Try.prog 9 = (some 16) := by kernel_rfl
attribute [go_sem] tab_tbytes_9
theorem tab_tagg_9 : tagg Try.prog 9 = (some false) := by kernel_rfl
attribute [go_sem] tab_tagg_9
theorem tab_tsz_10 : tsz Try.prog 10 = (some 1) := by kernel_rfl
attribute [go_sem] tab_tsz_10
theorem tab_tbytes_10 : tbytes Try.prog 10 = (some 16) := by kernel_rfl
attribute [go_sem] tab_tbytes_10
theorem tab_tagg_10 : tagg Try.prog 10 = (some false) := by kernel_rfl
attribute [go_sem] tab_tagg_10
theorem tab_tsz_11 : tsz Try.prog 11 = (some 1) := by kernel_rfl
attribute [go_sem] tab_tsz_11
theorem tab_tbytes_11 : tbytes Try.prog 11 = (some 16) := by kernel_rfl
attribute [go_sem] tab_tbytes_11
theorem tab_tagg_11 : tagg Try.prog 11 = (some false) := by kernel_rfl
attribute [go_sem] tab_tagg_11
theorem tab_tsz_12 : tsz Try.prog 12 = (some 1) := by kernel_rfl
attribute [go_sem] tab_tsz_12
theorem tab_tbytes_12 : tbytes Try.prog 12 = (some 8) := by kernel_rfl
attribute [go_sem] tab_tbytes_12
theorem tab_tagg_12 : tagg Try.prog 12 = (some false) := by kernel_rfl
attribute [go_sem] tab_tagg_12
theorem tab_tint_12 : tint Try.prog 12 = (some IntKind.u64) := by kernel_rfl
attribute [go_sem] tab_tint_12
theorem tab_tsz_13 : tsz Try.prog 13 = (some 2) := by kernel_rfl
attribute [go_sem] tab_tsz_13
theorem tab_tbytes_13 : tbytes Try.prog 13 = (some 24) := by kernel_rfl
attribute [go_sem] tab_tbytes_13
theorem tab_tagg_13 : tagg Try.prog 13 = (some true) := by kernel_rfl
attribute [go_sem] tab_tagg_13
theorem tab_tfields_13 : tfields Try.prog 13 = (some [(0, (1, false)), (1, (1, false))]) := by kernel_rfl
attribute [go_sem] tab_tfields_13
theorem tab_tsz_14 : tsz Try.prog 14 = (some 2) := by kernel_rfl
attribute [go_sem] tab_tsz_14
theorem tab_tbytes_14 : tbytes Try.prog 14 = (some 24) := by kernel_rfl
attribute [go_sem] tab_tbytes_14
theorem tab_tagg_14 : tagg Try.prog 14 = (some true) := by kernel_rfl
attribute [go_sem] tab_tagg_14
theorem tab_tfields_14 : tfields Try.prog 14 = (some [(0, (1, false)), (1, (1, false))]) := by kernel_rfl
attribute [go_sem] tab_tfields_14
theorem tab_tsz_15 : tsz Try.prog 15 = (some 1) := by kernel_rfl
attribute [go_sem] tab_tsz_15
theorem tab_tbytes_15 : tbytes Try.prog 15 = (some 8) := by kernel_rfl
attribute [go_sem] tab_tbytes_15
theorem tab_tagg_15 : tagg Try.prog 15 = (some false) := by kernel_rfl
attribute [go_sem] tab_tagg_15
theorem tab_tsz_16 : tsz Try.prog 16 = (some 1) := by kernel_rfl
attribute [go_sem] tab_tsz_16
theorem tab_tbytes_16 : tbytes Try.prog 16 = (some 8) := by kernel_rfl
attribute [go_sem] tab_tbytes_16
theorem tab_tagg_16 : tagg Try.prog 16 = (some false) := by kernel_rfl
attribute [go_sem] tab_tagg_16
theorem tab_tsz_17 : tsz Try.prog 17 = (some 1) := by kernel_rfl
attribute [go_sem] tab_tsz_17
theorem tab_tbytes_17 : tbytes Try.prog 17 = (some 8) := by kernel_rfl
attribute [go_sem] tab_tbytes_17
theorem tab_tagg_17 : tagg Try.prog 17 = (some false) := by kernel_rfl
attribute [go_sem] tab_tagg_17
theorem tab_tsz_18 : tsz Try.prog 18 = (some 1) := by kernel_rfl
attribute [go_sem] tab_tsz_18
theorem tab_tbytes_18 : tbytes Try.prog 18 = (some 8) := by kernel_rfl
attribute [go_sem] tab_tbytes_18
theorem tab_tagg_18 : tagg Try.prog 18 = (some true) := by kernel_rfl
attribute [go_sem] tab_tagg_18
theorem tab_tfields_18 : tfields Try.prog 18 = (some [(0, (1, false))]) := by kernel_rfl
attribute [go_sem] tab_tfields_18
theorem tab_tsz_19 : tsz Try.prog 19 = (some 1) := by kernel_rfl
attribute [go_sem] tab_tsz_19
theorem tab_tbytes_19 : tbytes Try.prog 19 = (some 8) := by kernel_rfl
attribute [go_sem] tab_tbytes_19
theorem tab_tagg_19 : tagg Try.prog 19 = (some true) := by kernel_rfl
attribute [go_sem] tab_tagg_19
theorem tab_tfields_19 : tfields Try.prog 19 = (some [(0, (1, false))]) := by kernel_rfl
attribute [go_sem] tab_tfields_19
theorem tab_tsz_20 : tsz Try.prog 20 = (some 1) := by kernel_rfl
attribute [go_sem] tab_tsz_20
theorem tab_tbytes_20 : tbytes Try.prog 20 = (some 16) := by kernel_rfl
attribute [go_sem] tab_tbytes_20
theorem tab_tagg_20 : tagg Try.prog 20 = (some false) := by kernel_rfl
attribute [go_sem] tab_tagg_20
theorem tab_tsz_21 : tsz Try.prog 21 = (some 1) := by kernel_rfl
attribute [go_sem] tab_tsz_21
theorem tab_tbytes_21 : tbytes Try.prog 21 = (some 4) := by kernel_rfl
attribute [go_sem] tab_tbytes_21
theorem tab_tagg_21 : tagg Try.prog 21 = (some false) := by kernel_rfl
attribute [go_sem] tab_tagg_21
theorem tab_tint_21 : tint Try.prog 21 = (some IntKind.i32) := by kernel_rfl
attribute [go_sem] tab_tint_21
theorem tab_tsz_22 : tsz Try.prog 22 = (some 1) := by kernel_rfl
attribute [go_sem] tab_tsz_22
theorem tab_tbytes_22 : tbytes Try.prog 22 = (some 24) := by kernel_rfl
attribute [go_sem] tab_tbytes_22
theorem tab_tagg_22 : tagg Try.prog 22 = (some false) := by kernel_rfl
attribute [go_sem] tab_tagg_22
theorem tab_tslice_22 : tslice Try.prog 22 = (some 78) := by kernel_rfl
attribute [go_sem] tab_tslice_22
theorem tab_tsz_23 : tsz Try.prog 23 = (some 1) := by kernel_rfl
attribute [go_sem] tab_tsz_23
theorem tab_tbytes_23 : tbytes Try.prog 23 = (some 24) := by kernel_rfl
attribute [go_sem] tab_tbytes_23
theorem tab_tagg_23 : tagg Try.prog 23 = (some true) := by kernel_rfl
attribute [go_sem] tab_tagg_23
theorem tab_tfields_23 : tfields Try.prog 23 = (some [(0, (1, false))]) := by kernel_rfl
attribute [go_sem] tab_tfields_23
theorem tab_tsz_24 : tsz Try.prog 24 = (some 1) := by kernel_rfl
attribute [go_sem] tab_tsz_24
theorem tab_tbytes_24 : tbytes Try.prog 24 = (some 24) := by kernel_rfl
attribute [go_sem] tab_tbytes_24
theorem tab_tagg_24 : tagg Try.prog 24 = (some true) := by kernel_rfl
attribute [go_sem] tab_tagg_24
theorem tab_tfields_24 : tfields Try.prog 24 = (some [(0, (1, false))]) := by kernel_rfl
attribute [go_sem] tab_tfields_24
theorem tab_tsz_25 : tsz Try.prog 25 = (some 1) := by kernel_rfl
attribute [go_sem] tab_tsz_25
theorem tab_tbytes_25 : tbytes Try.prog 25 = (some 24) := by kernel_rfl
attribute [go_sem] tab_tbytes_25
theorem tab_tagg_25 : tagg Try.prog 25 = (some false) := by kernel_rfl
attribute [go_sem] tab_tagg_25
theorem tab_tslice_25 : tslice Try.prog 25 = (some 55) := by kernel_rfl
attribute [go_sem] tab_tslice_25
theorem tab_tsz_26 : tsz Try.prog 26 = (some 2) := by kernel_rfl
attribute [go_sem] tab_tsz_26
theorem tab_tbytes_26 : tbytes Try.prog 26 = (some 16) := by kernel_rfl
attribute [go_sem] tab_tbytes_26
theorem tab_tagg_26 : tagg Try.prog 26 = (some true) := by kernel_rfl
attribute [go_sem] tab_tagg_26
theorem tab_tfields_26 : tfields Try.prog 26 = (some [(0, (1, false)), (1, (1, false))]) := by kernel_rfl
attribute [go_sem] tab_tfields_26
theorem tab_teq_26 : teq Try.prog 26 = (some [(0, false), (1, false)]) := by kernel_rfl
attribute [go_sem] tab_teq_26
theorem tab_tsz_27 : tsz Try.prog 27 = (some 2) := by kernel_rfl
attribute [go_sem] tab_tsz_27
theorem tab_tbytes_27 : tbytes Try.prog 27 = (some 16) := by kernel_rfl
attribute [go_sem] tab_tbytes_27
theorem tab_tagg_27 : tagg Try.prog 27 = (some true) := by kernel_rfl
attribute [go_sem] tab_tagg_27
theorem tab_tfields_27 : tfields Try.prog 27 = (some [(0, (1, false)), (1, (1, false))]) := by kernel_rfl
attribute [go_sem] tab_tfields_27
theorem tab_teq_27 : teq Try.prog 27 = (some [(0, false), (1, false)]) := by kernel_rfl
attribute [go_sem] tab_teq_27
theorem tab_tsz_28 : tsz Try.prog 28 = (some 5) := by kernel_rfl
attribute [go_sem] tab_tsz_28
theorem tab_tbytes_28 : tbytes Try.prog 28 = (some 40) := by kernel_rfl
attribute [go_sem] tab_tbytes_28
theorem tab_tagg_28 : tagg Try.prog 28 = (some true) := by kernel_rfl
attribute [go_sem] tab_tagg_28
theorem tab_tfields_28 : tfields Try.prog 28 = (some [(0, (1, false)), (1, (1, false)), (2, (1, false)), (3, (2, true))]) := by kernel_rfl
attribute [go_sem] tab_tfields_28
theorem tab_teq_28 : teq Try.prog 28 = (some [(0, false), (1, false), (2, false), (3, false), (4, false)]) := by kernel_rfl
attribute [go_sem] tab_teq_28
theorem tab_tsz_29 : tsz Try.prog 29 = (some 5) := by kernel_rfl
attribute [go_sem] tab_tsz_29
theorem tab_tbytes_29 : tbytes Try.prog 29 = (some 40) := by kernel_rfl
attribute [go_sem] tab_tbytes_29
theorem tab_tagg_29 : tagg Try.prog 29 = (some true) := by kernel_rfl
attribute [go_sem] tab_tagg_29
theorem tab_tfields_29 : tfields Try.prog 29 = (some [(0, (1, false)), (1, (1, false)), (2, (1, false)), (3, (2, true))]) := by kernel_rfl
attribute [go_sem] tab_tfields_29
theorem tab_teq_29 : teq Try.prog 29 = (some [(0, false), (1, false), (2, false), (3, false), (4, false)]) := by kernel_rfl
attribute [go_sem] tab_teq_29
theorem tab_tsz_30 : tsz Try.prog 30 = (some 1) := by kernel_rfl
attribute [go_sem] tab_tsz_30
theorem tab_tbytes_30 : tbytes Try.prog 30 = (some 24) := by kernel_rfl
attribute [go_sem] tab_tbytes_30
theorem tab_tagg_30 : tagg Try.prog 30 = (some false) := by kernel_rfl
attribute [go_sem] tab_tagg_30
theorem tab_tslice_30 : tslice Try.prog 30 = (some 49) := by kernel_rfl
attribute [go_sem] tab_tslice_30
theorem tab_tsz_31 : tsz Try.prog 31 = (some 8) := by kernel_rfl
attribute [go_sem] tab_tsz_31
theorem tab_tbytes_31 : tbytes Try.prog 31 = (some 112) := by kernel_rfl
attribute [go_sem] tab_tbytes_31
theorem tab_tagg_31 : tagg Try.prog 31 = (some true) := by kernel_rfl
attribute [go_sem] tab_tagg_31
theorem tab_tfields_31 : tfields Try.prog 31 = (some [(0, (1, true)), (1, (1, false)), (2, (5, true)), (7, (1, false))]) := by kernel_rfl
attribute [go_sem] tab_tfields_31
theorem tab_tsz_32 : tsz Try.prog 32 = (some 8) := by kernel_rfl
attribute [go_sem] tab_tsz_32
theorem tab_tbytes_32 : tbytes Try.prog 32 = (some 112) := by kernel_rfl
attribute [go_sem] tab_tbytes_32
theorem tab_tagg_32 : tagg Try.prog 32 = (some true) := by kernel_rfl
attribute [go_sem] tab_tagg_32
theorem tab_tfields_32 : tfields Try.prog 32 = (some [(0, (1, true)), (1, (1, false)), (2, (5, true)), (7, (1, false))]) := by kernel_rfl
attribute [go_sem] tab_tfields_32
theorem tab_tsz_33 : tsz Try.prog 33 = (some 1) := by kernel_rfl
attribute [go_sem] tab_tsz_33
theorem tab_tbytes_33 : tbytes Try.prog 33 = (some 24) := by kernel_rfl
attribute [go_sem] tab_tbytes_33
theorem tab_tagg_33 : tagg Try.prog 33 = (some false) := by kernel_rfl
attribute [go_sem] tab_tagg_33
theorem tab_tslice_33 : tslice Try.prog 33 = (some 52) := by kernel_rfl
attribute [go_sem] tab_tslice_33
theorem tab_tsz_34 : tsz Try.prog 34 = (some 1) := by kernel_rfl
attribute [go_sem] tab_tsz_34
theorem tab_tbytes_34 : tbytes Try.prog 34 = (some 24) := by kernel_rfl
attribute [go_sem] tab_tbytes_34
theorem tab_tagg_34 : tagg Try.prog 34 = (some false) := by kernel_rfl
attribute [go_sem] tab_tagg_34
theorem tab_tslice_34 : tslice Try.prog 34 = (some 3) := by kernel_rfl
attribute [go_sem] tab_tslice_34
theorem tab_tsz_35 : tsz Try.prog 35 = (some 4) := by kernel_rfl
attribute [go_sem] tab_tsz_35
theorem tab_tbytes_35 : tbytes Try.prog 35 = (some 64) := by kernel_rfl
attribute [go_sem] tab_tbytes_35
theorem tab_tagg_35 : tagg Try.prog 35 = (some true) := by kernel_rfl
attribute [go_sem] tab_tagg_35
theorem tab_tfields_35 : tfields Try.prog 35 = (some [(0, (1, false)), (1, (1, false)), (2, (1, false)), (3, (1, false))]) := by kernel_rfl
attribute [go_sem] tab_tfields_35
theorem tab_tsz_36 : tsz Try.prog 36 = (some 4) := by kernel_rfl
attribute [go_sem] tab_tsz_36
theorem tab_tbytes_36 : tbytes Try.prog 36 = (some 64) := by kernel_rfl
attribute [go_sem] tab_tbytes_36
theorem tab_tagg_36 : tagg Try.prog 36 = (some true) := by kernel_rfl
attribute [go_sem] tab_tagg_36
theorem tab_tfields_36 : tfields Try.prog 36 = (some [(0, (1, false)), (1, (1, false)), (2, (1, false)), (3, (1, false))]) := by kernel_rfl
attribute [go_sem] tab_tfields_36
theorem tab_tsz_37 : tsz Try.prog 37 = (some 1) := by kernel_rfl
attribute [go_sem] tab_tsz_37
theorem tab_tbytes_37 : tbytes Try.prog 37 = (some 8) := by kernel_rfl
attribute [go_sem] tab_tbytes_37
theorem tab_tagg_37 : tagg Try.prog 37 = (some false) := by kernel_rfl
attribute [go_sem] tab_tagg_37
theorem tab_tsz_38 : tsz Try.prog 38 = (some 1) := by kernel_rfl
attribute [go_sem] tab_tsz_38
theorem tab_tbytes_38 : tbytes Try.prog 38 = (some 8) := by kernel_rfl
attribute [go_sem] tab_tbytes_38
theorem tab_tagg_38 : tagg Try.prog 38 = (some false) := by kernel_rfl
attribute [go_sem] tab_tagg_38
theorem tab_tsz_39 : tsz Try.prog 39 = (some 1) := by kernel_rfl
attribute [go_sem] tab_tsz_39
theorem tab_tbytes_39 : tbytes Try.prog 39 = (some 8) := by kernel_rfl
attribute [go_sem] tab_tbytes_39
theorem tab_tagg_39 : tagg Try.prog 39 = (some false) := by kernel_rfl
attribute [go_sem] tab_tagg_39
theorem tab_tsz_40 : tsz Try.prog 40 = (some 1) := by kernel_rfl
attribute [go_sem] tab_tsz_40
theorem tab_tbytes_40 : tbytes Try.prog 40 = (some 8) := by kernel_rfl
attribute [go_sem] tab_tbytes_40
theorem tab_tagg_40 : tagg Try.prog 40 = (some false) := by kernel_rfl
attribute [go_sem] tab_tagg_40
theorem tab_tsz_41 : tsz Try.prog 41 = (some 1) := by kernel_rfl
attribute [go_sem] tab_tsz_41
theorem tab_tbytes_41 : tbytes Try.prog 41 = (some 8) := by kernel_rfl
attribute [go_sem] tab_tbytes_41
theorem tab_tagg_41 : tagg Try.prog 41 = (some false) := by kernel_rfl
attribute [go_sem] tab_tagg_41
theorem tab_tint_41 : tint Try.prog 41 = (some IntKind.i64) := by kernel_rfl
attribute [go_sem] tab_tint_41
theorem tab_tsz_42 : tsz Try.prog 42 = (some 1) := by kernel_rfl
attribute [go_sem] tab_tsz_42
theorem tab_tbytes_42 : tbytes Try.prog 42 = (some 0) := by kernel_rfl
attribute [go_sem] tab_tbytes_42
theorem tab_tagg_42 : tagg Try.prog 42 = (some false) := by kernel_rfl
attribute [go_sem] tab_tagg_42
theorem tab_tsz_43 : tsz Try.prog 43 = (some 1) := by kernel_rfl
attribute [go_sem] tab_tsz_43
theorem tab_tbytes_43 : tbytes Try.prog 43 = (some 8) := by kernel_rfl
attribute [go_sem] tab_tbytes_43
theorem tab_tagg_43 : tagg Try.prog 43 = (some false) := by kernel_rfl
attribute [go_sem] tab_tagg_43
theorem tab_tsz_44 : tsz Try.prog 44 = (some 1) := by kernel_rfl
attribute [go_sem] tab_tsz_44
theorem tab_tbytes_44 : tbytes Try.prog 44 = (some 0) := by kernel_rfl
attribute [go_sem] tab_tbytes_44
theorem tab_tagg_44 : tagg Try.prog 44 = (some false) := by kernel_rfl
attribute [go_sem] tab_tagg_44
theorem tab_tsz_45 : tsz Try.prog 45 = (some 1) := by kernel_rfl
attribute [go_sem] tab_tsz_45
theorem tab_tbytes_45 : tbytes Try.prog 45 = (some 8) := by kernel_rfl
attribute [go_sem] tab_tbytes_45
theorem tab_tagg_45 : tagg Try.prog 45 = (some false) := by kernel_rfl
attribute [go_sem] tab_tagg_45
theorem tab_tsz_46 : tsz Try.prog 46 = (some 4) := by kernel_rfl
attribute [go_sem] tab_tsz_46
theorem tab_tbytes_46 : tbytes Try.prog 46 = (some 32) := by kernel_rfl
attribute [go_sem] tab_tbytes_46
theorem tab_tagg_46 : tagg Try.prog 46 = (some true) := by kernel_rfl
attribute [go_sem] tab_tagg_46
theorem tab_tfields_46 : tfields Try.prog 46 = (some [(0, (1, false)), (1, (1, false)), (2, (2, true))]) := by kernel_rfl
attribute [go_sem] tab_tfields_46
theorem tab_teq_46 : teq Try.prog 46 = (some [(0, false), (1, false), (2, false), (3, false)]) := by kernel_rfl
attribute [go_sem] tab_teq_46
theorem tab_tsz_47 : tsz Try.prog 47 = (some 4) := by kernel_rfl
attribute [go_sem] tab_tsz_47
theorem tab_tbytes_47 : tbytes Try.prog 47 = (some 32) := by kernel_rfl
attribute [go_sem] tab_tbytes_47
theorem tab_tagg_47 : tagg Try.prog 47 = (some true) := by kernel_rfl
attribute [go_sem] tab_tagg_47
theorem tab_tfields_47 : tfields Try.prog 47 = (some [(0, (1, false)), (1, (1, false)), (2, (2, true))]) := by kernel_rfl
attribute [go_sem] tab_tfields_47
theorem tab_teq_47 : teq Try.prog 47 = (some [(0, false), (1, false), (2, false), (3, false)]) := by kernel_rfl
attribute [go_sem] tab_teq_47
theorem tab_tsz_48 : tsz Try.prog 48 = (some 7) := by kernel_rfl
attribute [go_sem] tab_tsz_48
theorem tab_tbytes_48 : tbytes Try.prog 48 = (some 56) := by kernel_rfl
attribute [go_sem] tab_tbytes_48
theorem tab_tagg_48 : tagg Try.prog 48 = (some true) := by kernel_rfl
attribute [go_sem] tab_tagg_48
theorem tab_tfields_48 : tfields Try.prog 48 = (some [(0, (1, false)), (1, (1, false)), (2, (1, false)), (3, (4, true))]) := by kernel_rfl
attribute [go_sem] tab_tfields_48
theorem tab_tsz_49 : tsz Try.prog 49 = (some 7) := by kernel_rfl
attribute [go_sem] tab_tsz_49
theorem tab_tbytes_49 : tbytes Try.prog 49 = (some 56) := by kernel_rfl
attribute [go_sem] tab_tbytes_49
theorem tab_tagg_49 : tagg Try.prog 49 = (some true) := by kernel_rfl
attribute [go_sem] tab_tagg_49
theorem tab_tfields_49 : tfields Try.prog 49 = (some [(0, (1, false)), (1, (1, false)), (2, (1, false)), (3, (4, true))]) := by kernel_rfl
attribute [go_sem] tab_tfields_49
theorem tab_tsz_50 : tsz Try.prog 50 = (some 1) := by kernel_rfl
attribute [go_sem] tab_tsz_50
theorem tab_tbytes_50 : tbytes Try.prog 50 = (some 8) := by kernel_rfl
attribute [go_sem] tab_tbytes_50
theorem tab_tagg_50 : tagg Try.prog 50 = (some false) := by kernel_rfl
attribute [go_sem] tab_tagg_50
theorem tab_tsz_51 : tsz Try.prog 51 = (some 3) := by kernel_rfl
attribute [go_sem] tab_tsz_51
theorem tab_tbytes_51 : tbytes Try.prog 51 = (some 24) := by kernel_rfl
attribute [go_sem] tab_tbytes_51
theorem tab_tagg_51 : tagg Try.prog 51 = (some true) := by kernel_rfl
attribute [go_sem] tab_tagg_51
theorem tab_tfields_51 : tfields Try.prog 51 = (some [(0, (1, false)), (1, (1, false)), (2, (1, false))]) := by kernel_rfl
attribute [go_sem] tab_tfields_51
theorem tab_teq_51 : teq Try.prog 51 = (some [(0, false), (1, false), (2, false)]) := by kernel_rfl
attribute [go_sem] tab_teq_51
theorem tab_tsz_52 : tsz Try.prog 52 = (some 3) := by kernel_rfl
attribute [go_sem] tab_tsz_52
theorem tab_tbytes_52 : tbytes Try.prog 52 = (some 24) := by kernel_rfl
attribute [go_sem] tab_tbytes_52
theorem tab_tagg_52 : tagg Try.prog 52 = (some true) := by kernel_rfl
attribute [go_sem] tab_tagg_52
theorem tab_tfields_52 : tfields Try.prog 52 = (some [(0, (1, false)), (1, (1, false)), (2, (1, false))]) := by kernel_rfl
attribute [go_sem] tab_tfields_52
theorem tab_teq_52 : teq Try.prog 52 = (some [(0, false), (1, false), (2, false)]) := by kernel_rfl
attribute [go_sem] tab_teq_52
theorem tab_tsz_53 : tsz Try.prog 53 = (some 1) := by kernel_rfl
attribute [go_sem] tab_tsz_53
theorem tab_tbytes_53 : tbytes Try.prog 53 = (some 8) := by kernel_rfl
attribute [go_sem] tab_tbytes_53
theorem tab_tagg_53 : tagg Try.prog 53 = (some false) := by kernel_rfl
attribute [go_sem] tab_tagg_53
theorem tab_tsz_54 : tsz Try.prog 54 = (some 4) := by kernel_rfl
attribute [go_sem] tab_tsz_54
theorem tab_tbytes_54 : tbytes Try.prog 54 = (some 32) := by kernel_rfl
attribute [go_sem] tab_tbytes_54
theorem tab_tagg_54 : tagg Try.prog 54 = (some true) := by kernel_rfl
attribute [go_sem] tab_tagg_54
theorem tab_tfields_54 : tfields Try.prog 54 = (some [(0, (1, false)), (1, (3, true))]) := by kernel_rfl
attribute [go_sem] tab_tfields_54
theorem tab_teq_54 : teq Try.prog 54 = (some [(0, false), (1, false), (2, false), (3, false)]) := by kernel_rfl
attribute [go_sem] tab_teq_54
theorem tab_tsz_55 : tsz Try.prog 55 = (some 4) := by kernel_rfl
attribute [go_sem] tab_tsz_55
theorem tab_tbytes_55 : tbytes Try.prog 55 = (some 32) := by kernel_rfl
attribute [go_sem] tab_tbytes_55
theorem tab_tagg_55 : tagg Try.prog 55 = (some true) := by kernel_rfl
attribute [go_sem] tab_tagg_55
theorem tab_tfields_55 : tfields Try.prog 55 = (some [(0, (1, false)), (1, (3, true))]) := by kernel_rfl
attribute [go_sem] tab_tfields_55
theorem tab_teq_55 : teq Try.prog 55 = (some [(0, false), (1, false), (2, false), (3, false)]) := by kernel_rfl
attribute [go_sem] tab_teq_55
theorem tab_tsz_56 : tsz Try.prog 56 = (some 1) := by kernel_rfl
attribute [go_sem] tab_tsz_56
theorem tab_tbytes_56 : tbytes Try.prog 56 = (some 8) := by kernel_rfl
attribute [go_sem] tab_tbytes_56
theorem tab_tagg_56 : tagg Try.prog 56 = (some false) := by kernel_rfl
attribute [go_sem] tab_tagg_56
theorem tab_tsz_57 : tsz Try.prog 57 = (some 1) := by kernel_rfl
attribute [go_sem] tab_tsz_57
theorem tab_tbytes_57 : tbytes Try.prog 57 = (some 24) := by kernel_rfl
attribute [go_sem] tab_tbytes_57
theorem tab_tagg_57 : tagg Try.prog 57 = (some false) := by kernel_rfl
attribute [go_sem] tab_tagg_57
theorem tab_tslice_57 : tslice Try.prog 57 = (some 34) := by kernel_rfl
attribute [go_sem] tab_tslice_57
theorem tab_tsz_58 : tsz Try.prog 58 = (some 1) := by kernel_rfl
attribute [go_sem] tab_tsz_58
theorem tab_tbytes_58 : tbytes Try.prog 58 = (some 0) := by kernel_rfl
attribute [go_sem] tab_tbytes_58
theorem tab_tagg_58 : tagg Try.prog 58 = (some false) := by kernel_rfl
attribute [go_sem] tab_tagg_58
theorem tab_tsz_59 : tsz Try.prog 59 = (some 1) := by kernel_rfl
attribute [go_sem] tab_tsz_59
theorem tab_tbytes_59 : tbytes Try.prog 59 = (some 8) := by kernel_rfl
attribute [go_sem] tab_tbytes_59
theorem tab_tagg_59 : tagg Try.prog 59 = (some false) := by kernel_rfl
attribute [go_sem] tab_tagg_59
theorem tab_tsz_60 : tsz Try.prog 60 = (some 1) := by kernel_rfl
attribute [go_sem] tab_tsz_60
theorem tab_tbytes_60 : tbytes Try.prog 60 = (some 8) := by kernel_rfl
attribute [go_sem] tab_tbytes_60
theorem tab_tagg_60 : tagg Try.prog 60 = (some false) := by kernel_rfl
attribute [go_sem] tab_tagg_60
theorem tab_tsz_61 : tsz Try.prog 61 = (some 1) := by kernel_rfl
attribute [go_sem] tab_tsz_61
theorem tab_tbytes_61 : tbytes Try.prog 61 = (some 24) := by kernel_rfl
attribute [go_sem] tab_tbytes_61
theorem tab_tagg_61 : tagg Try.prog 61 = (some false) := by kernel_rfl
attribute [go_sem] tab_tagg_61
theorem tab_tslice_61 : tslice Try.prog 61 = (some 65) := by kernel_rfl
attribute [go_sem] tab_tslice_61
theorem tab_tsz_62 : tsz Try.prog 62 = (some 1) := by kernel_rfl
attribute [go_sem] tab_tsz_62
theorem tab_tbytes_62 : tbytes Try.prog 62 = (some 0) := by kernel_rfl
attribute [go_sem] tab_tbytes_62
theorem tab_tagg_62 : tagg Try.prog 62 = (some false) := by kernel_rfl
attribute [go_sem] tab_tagg_62
theorem tab_tsz_63 : tsz Try.prog 63 = (some 1) := by kernel_rfl
attribute [go_sem] tab_tsz_63
theorem tab_tbytes_63 : tbytes Try.prog 63 = (some 8) := by kernel_rfl
attribute [go_sem] tab_tbytes_63
theorem tab_tagg_63 : tagg Try.prog 63 = (some false) := by kernel_rfl
attribute [go_sem] tab_tagg_63
theorem tab_tsz_64 : tsz Try.prog 64 = (some 2) := by kernel_rfl
attribute [go_sem] tab_tsz_64
theorem tab_tbytes_64 : tbytes Try.prog 64 = (some 16) := by kernel_rfl
attribute [go_sem] tab_tbytes_64
theorem tab_tagg_64 : tagg Try.prog 64 = (some true) := by kernel_rfl
attribute [go_sem] tab_tagg_64
theorem tab_tfields_64 : tfields Try.prog 64 = (some [(0, (1, false)), (1, (1, false))]) := by kernel_rfl
attribute [go_sem] tab_tfields_64
theorem tab_teq_64 : teq Try.prog 64 = (some [(0, false), (1, false)]) := by kernel_rfl
attribute [go_sem] tab_teq_64
theorem tab_tsz_65 : tsz Try.prog 65 = (some 2) := by kernel_rfl
attribute [go_sem] tab_tsz_65
theorem tab_tbytes_65 : tbytes Try.prog 65 = (some 16) := by kernel_rfl
attribute [go_sem] tab_tbytes_65
theorem tab_tagg_65 : tagg Try.prog 65 = (some true) := by kernel_rfl
attribute [go_sem] tab_tagg_65
theorem tab_tfields_65 : tfields Try.prog 65 = (some [(0, (1, false)), (1, (1, false))]) := by kernel_rfl
attribute [go_sem] tab_tfields_65
theorem tab_teq_65 : teq Try.prog 65 = (some [(0, false), (1, false)]) := by kernel_rfl
attribute [go_sem] tab_teq_65
theorem tab_tsz_66 : tsz Try.prog 66 = (some 1) := by kernel_rfl
attribute [go_sem] tab_tsz_66
theorem tab_tbytes_66 : tbytes Try.prog 66 = (some 8) := by kernel_rfl
attribute [go_sem] tab_tbytes_66
theorem tab_tagg_66 : tagg Try.prog 66 = (some false) := by kernel_rfl
attribute [go_sem] tab_tagg_66
theorem tab_tsz_67 : tsz Try.prog 67 = (some 11) := by kernel_rfl
attribute [go_sem] tab_tsz_67
theorem tab_tbytes_67 : tbytes Try.prog 67 = (some 88) := by kernel_rfl
attribute [go_sem] tab_tbytes_67
theorem tab_tagg_67 : tagg Try.prog 67 = (some true) := by kernel_rfl
attribute [go_sem] tab_tagg_67
theorem tab_tfields_67 : tfields Try.prog 67 = (some [(0, (1, false)), (1, (1, false)), (2, (1, false)), (3, (1, false)), (4, (7, true))]) := by kernel_rfl
attribute [go_sem] tab_tfields_67
theorem tab_tsz_68 : tsz Try.prog 68 = (some 11) := by kernel_rfl
attribute [go_sem] tab_tsz_68
theorem tab_tbytes_68 : tbytes Try.prog 68 = (some 88) := by kernel_rfl
attribute [go_sem] tab_tbytes_68
theorem tab_tagg_68 : tagg Try.prog 68 = (some true) := by kernel_rfl
attribute [go_sem] tab_tagg_68
theorem tab_tfields_68 : tfields Try.prog 68 = (some [(0, (1, false)), (1, (1, false)), (2, (1, false)), (3, (1, false)), (4, (7, true))]) := by kernel_rfl
attribute [go_sem] tab_tfields_68
theorem tab_tsz_69 : tsz Try.prog 69 = (some 1) := by kernel_rfl
attribute [go_sem] tab_tsz_69
theorem tab_tbytes_69 : tbytes Try.prog 69 = (some 8) := by kernel_rfl
attribute [go_sem] tab_tbytes_69
theorem tab_tagg_69 : tagg Try.prog 69 = (some false) := by kernel_rfl
attribute [go_sem] tab_tagg_69
theorem tab_tsz_70 : tsz Try.prog 70 = (some 1) := by kernel_rfl
attribute [go_sem] tab_tsz_70
theorem tab_tbytes_70 : tbytes Try.prog 70 = (some 8) := by kernel_rfl
attribute [go_sem] tab_tbytes_70
theorem tab_tagg_70 : tagg Try.prog 70 = (some false) := by kernel_rfl
attribute [go_sem] tab_tagg_70
theorem tab_tsz_71 : tsz Try.prog 71 = (some 1) := by kernel_rfl
attribute [go_sem] tab_tsz_71
theorem tab_tbytes_71 : tbytes Try.prog 71 = (some 8) := by kernel_rfl
attribute [go_sem] tab_tbytes_71
theorem tab_tagg_71 : tagg Try.prog 71 = (some false) := by kernel_rfl
attribute [go_sem] tab_tagg_71
theorem tab_tsz_72 : tsz Try.prog 72 = (some 1) := by kernel_rfl
attribute [go_sem] tab_tsz_72
theorem tab_tbytes_72 : tbytes Try.prog 72 = (some 8) := by kernel_rfl
attribute [go_sem] tab_tbytes_72
theorem tab_tagg_72 : tagg Try.prog 72 = (some false) := by kernel_rfl
attribute [go_sem] tab_tagg_72
theorem tab_tsz_73 : tsz Try.prog 73 = (some 1) := by kernel_rfl
attribute [go_sem] tab_tsz_73
theorem tab_tbytes_73 : tbytes Try.prog 73 = (some 8) := by kernel_rfl
attribute [go_sem] tab_tbytes_73
theorem tab_tagg_73 : tagg Try.prog 73 = (some false) := by kernel_rfl
attribute [go_sem] tab_tagg_73
theorem tab_tsz_74 : tsz Try.prog 74 = (some 6) := by kernel_rfl
attribute [go_sem] tab_tsz_74
theorem tab_tbytes_74 : tbytes Try.prog 74 = (some 48) := by kernel_rfl
attribute [go_sem] tab_tbytes_74
theorem tab_tagg_74 : tagg Try.prog 74 = (some true) := by kernel_rfl
attribute [go_sem] tab_tagg_74
theorem tab_tfields_74 : tfields Try.prog 74 = (some [(0, (2, true)), (2, (2, true)), (4, (2, true))]) := by kernel_rfl
attribute [go_sem] tab_tfields_74
theorem tab_teq_74 : teq Try.prog 74 = (some [(0, false), (1, false), (2, false), (3, false), (4, false), (5, false)]) := by kernel_rfl
attribute [go_sem] tab_teq_74
theorem tab_tsz_75 : tsz Try.prog 75 = (some 6) := by kernel_rfl
attribute [go_sem] tab_tsz_75
theorem tab_tbytes_75 : tbytes Try.prog 75 = (some 48) := by kernel_rfl
attribute [go_sem] tab_tbytes_75
theorem tab_tagg_75 : tagg Try.prog 75 = (some true) := by kernel_rfl
attribute [go_sem] tab_tagg_75
theorem tab_tfields_75 : tfields Try.prog 75 = (some [(0, (2, true)), (2, (2, true)), (4, (2, true))]) := by kernel_rfl
attribute [go_sem] tab_tfields_75
theorem tab_teq_75 : teq Try.prog 75 = (some [(0, false), (1, false), (2, false), (3, false), (4, false), (5, false)]) := by kernel_rfl
attribute [go_sem] tab_teq_75
theorem tab_tsz_76 : tsz Try.prog 76 = (some 1) := by kernel_rfl
attribute [go_sem] tab_tsz_76
theorem tab_tbytes_76 : tbytes Try.prog 76 = (some 24) := by kernel_rfl
attribute [go_sem] tab_tbytes_76
theorem tab_tagg_76 : tagg Try.prog 76 = (some false) := by kernel_rfl
attribute [go_sem] tab_tagg_76
theorem tab_tslice_76 : tslice Try.prog 76 = (some 75) := by kernel_rfl
attribute [go_sem] tab_tslice_76
theorem tab_tsz_77 : tsz Try.prog 77 = (some 1) := by kernel_rfl
attribute [go_sem] tab_tsz_77
theorem tab_tbytes_77 : tbytes Try.prog 77 = (some 24) := by kernel_rfl
attribute [go_sem] tab_tbytes_77
theorem tab_tagg_77 : tagg Try.prog 77 = (some true) := by kernel_rfl
attribute [go_sem] tab_tagg_77
theorem tab_tfields_77 : tfields Try.prog 77 = (some [(0, (1, false))]) := by kernel_rfl
attribute [go_sem] tab_tfields_77
theorem tab_tsz_78 : tsz Try.prog 78 = (some 1) := by kernel_rfl
attribute [go_sem] tab_tsz_78
theorem tab_tbytes_78 : tbytes Try.prog 78 = (some 24) := by kernel_rfl
attribute [go_sem] tab_tbytes_78
theorem tab_tagg_78 : tagg Try.prog 78 = (some true) := by kernel_rfl
attribute [go_sem] tab_tagg_78
theorem tab_tfields_78 : tfields Try.prog 78 = (some [(0, (1, false))]) := by kernel_rfl
attribute [go_sem] tab_tfields_78
theorem tab_tsz_79 : tsz Try.prog 79 = (some 1) := by kernel_rfl
attribute [go_sem] tab_tsz_79
theorem tab_tbytes_79 : tbytes Try.prog 79 = (some 8) := by kernel_rfl
attribute [go_sem] tab_tbytes_79
theorem tab_tagg_79 : tagg Try.prog 79 = (some false) := by kernel_rfl
attribute [go_sem] tab_tagg_79
theorem tab_tsz_80 : tsz Try.prog 80 = (some 1) := by kernel_rfl
attribute [go_sem] tab_tsz_80
theorem tab_tbytes_80 : tbytes Try.prog 80 = (some 8) := by kernel_rfl
attribute [go_sem] tab_tbytes_80
theorem tab_tagg_80 : tagg Try.prog 80 = (some false) := by kernel_rfl
attribute [go_sem] tab_tagg_80
theorem tab_tsz_81 : tsz Try.prog 81 = (some 1) := by kernel_rfl
attribute [go_sem] tab_tsz_81
theorem tab_tbytes_81 : tbytes Try.prog 81 = (some 8) := by kernel_rfl
attribute [go_sem] tab_tbytes_81
theorem tab_tagg_81 : tagg Try.prog 81 = (some false) := by kernel_rfl
attribute [go_sem] tab_tagg_81
theorem tab_tsz_82 : tsz Try.prog 82 = (some 1) := by kernel_rfl
attribute [go_sem] tab_tsz_82
theorem tab_tbytes_82 : tbytes Try.prog 82 = (some 8) := by kernel_rfl
attribute [go_sem] tab_tbytes_82
theorem tab_tagg_82 : tagg Try.prog 82 = (some false) := by kernel_rfl
attribute [go_sem] tab_tagg_82
theorem tab_tsz_83 : tsz Try.prog 83 = (some 1) := by kernel_rfl
attribute [go_sem] tab_tsz_83
theorem tab_tbytes_83 : tbytes Try.prog 83 = (some 0) := by kernel_rfl
attribute [go_sem] tab_tbytes_83
theorem tab_tagg_83 : tagg Try.prog 83 = (some false) := by kernel_rfl
attribute [go_sem] tab_tagg_83
theorem tab_tsz_84 : tsz Try.prog 84 = (some 1) := by kernel_rfl
attribute [go_sem] tab_tsz_84
theorem tab_tbytes_84 : tbytes Try.prog 84 = (some 8) := by kernel_rfl
attribute [go_sem] tab_tbytes_84
theorem tab_tagg_84 : tagg Try.prog 84 = (some false) := by kernel_rfl
attribute [go_sem] tab_tagg_84
theorem tab_tsz_85 : tsz Try.prog 85 = (some 4) := by kernel_rfl
attribute [go_sem] tab_tsz_85
theorem tab_tbytes_85 : tbytes Try.prog 85 = (some 32) := by kernel_rfl
attribute [go_sem] tab_tbytes_85
theorem tab_tagg_85 : tagg Try.prog 85 = (some true) := by kernel_rfl
attribute [go_sem] tab_tagg_85
theorem tab_tfields_85 : tfields Try.prog 85 = (some [(0, (4, true))]) := by kernel_rfl
attribute [go_sem] tab_tfields_85
theorem tab_tsz_86 : tsz Try.prog 86 = (some 4) := by kernel_rfl
attribute [go_sem] tab_tsz_86
theorem tab_tbytes_86 : tbytes Try.prog 86 = (some 32) := by kernel_rfl
attribute [go_sem] tab_tbytes_86
theorem tab_tagg_86 : tagg Try.prog 86 = (some true) := by kernel_rfl
attribute [go_sem] tab_tagg_86
theorem tab_tfields_86 : tfields Try.prog 86 = (some [(0, (4, true))]) := by kernel_rfl
attribute [go_sem] tab_tfields_86
theorem tab_tsz_87 : tsz Try.prog 87 = (some 1) := by kernel_rfl
attribute [go_sem] tab_tsz_87
theorem tab_tbytes_87 : tbytes Try.prog 87 = (some 8) := by kernel_rfl
attribute [go_sem] tab_tbytes_87
theorem tab_tagg_87 : tagg Try.prog 87 = (some false) := by kernel_rfl
attribute [go_sem] tab_tagg_87
theorem tab_tsz_88 : tsz Try.prog 88 = (some 1) := by kernel_rfl
attribute [go_sem] tab_tsz_88
theorem tab_tbytes_88 : tbytes Try.prog 88 = (some 0) := by kernel_rfl
attribute [go_sem] tab_tbytes_88
theorem tab_tagg_88 : tagg Try.prog 88 = (some false) := by kernel_rfl
attribute [go_sem] tab_tagg_88
theorem tab_tsz_89 : tsz Try.prog 89 = (some 1) := by kernel_rfl
attribute [go_sem] tab_tsz_89
theorem tab_tbytes_89 : tbytes Try.prog 89 = (some 8) := by kernel_rfl
attribute [go_sem] tab_tbytes_89
theorem tab_tagg_89 : tagg Try.prog 89 = (some false) := by kernel_rfl
attribute [go_sem] tab_tagg_89
theorem tab_tsz_90 : tsz Try.prog 90 = (some 1) := by kernel_rfl
attribute [go_sem] tab_tsz_90
theorem tab_tbytes_90 : tbytes Try.prog 90 = (some 24) := by kernel_rfl
attribute [go_sem] tab_tbytes_90
theorem tab_tagg_90 : tagg Try.prog 90 = (some false) := by kernel_rfl
attribute [go_sem] tab_tagg_90
theorem tab_tslice_90 : tslice Try.prog 90 = (some 76) := by kernel_rfl
attribute [go_sem] tab_tslice_90
theorem tab_tsz_91 : tsz Try.prog 91 = (some 3) := by kernel_rfl
attribute [go_sem] tab_tsz_91
theorem tab_tbytes_91 : tbytes Try.prog 91 = (some 56) := by kernel_rfl
attribute [go_sem] tab_tbytes_91
theorem tab_tagg_91 : tagg Try.prog 91 = (some true) := by kernel_rfl
attribute [go_sem] tab_tagg_91
theorem tab_tfields_91 : tfields Try.prog 91 = (some [(0, (1, false)), (1, (1, false)), (2, (1, false))]) := by kernel_rfl
attribute [go_sem] tab_tfields_91
theorem tab_tsz_92 : tsz Try.prog 92 = (some 3) := by kernel_rfl
attribute [go_sem] tab_tsz_92
theorem tab_tbytes_92 : tbytes Try.prog 92 = (some 56) := by kernel_rfl
attribute [go_sem] tab_tbytes_92
theorem tab_tagg_92 : tagg Try.prog 92 = (some true) := by kernel_rfl
attribute [go_sem] tab_tagg_92
theorem tab_tfields_92 : tfields Try.prog 92 = (some [(0, (1, false)), (1, (1, false)), (2, (1, false))]) := by kernel_rfl
attribute [go_sem] tab_tfields_92
theorem tab_tsz_93 : tsz Try.prog 93 = (some 1) := by kernel_rfl
attribute [go_sem] tab_tsz_93
theorem tab_tbytes_93 : tbytes Try.prog 93 = (some 8) := by kernel_rfl
attribute [go_sem] tab_tbytes_93
theorem tab_tagg_93 : tagg Try.prog 93 = (some false) := by kernel_rfl
attribute [go_sem] tab_tagg_93
theorem tab_tsz_94 : tsz Try.prog 94 = (some 1) := by kernel_rfl
attribute [go_sem] tab_tsz_94
theorem tab_tbytes_94 : tbytes Try.prog 94 = (some 24) := by kernel_rfl
attribute [go_sem] tab_tbytes_94
theorem tab_tagg_94 : tagg Try.prog 94 = (some false) := by kernel_rfl
attribute [go_sem] tab_tagg_94
theorem tab_tslice_94 : tslice Try.prog 94 = (some 4) := by kernel_rfl
attribute [go_sem] tab_tslice_94
theorem tab_tsz_95 : tsz Try.prog 95 = (some 1) := by kernel_rfl
attribute [go_sem] tab_tsz_95
theorem tab_tbytes_95 : tbytes Try.prog 95 = (some 8) := by kernel_rfl
attribute [go_sem] tab_tbytes_95
theorem tab_tagg_95 : tagg Try.prog 95 = (some false) := by kernel_rfl
attribute [go_sem] tab_tagg_95
theorem tab_tsz_96 : tsz Try.prog 96 = (some 1) := by kernel_rfl
attribute [go_sem] tab_tsz_96
theorem tab_tbytes_96 : tbytes Try.prog 96 = (some 8) := by kernel_rfl
attribute [go_sem] tab_tbytes_96
theorem tab_tagg_96 : tagg Try.prog 96 = (some false) := by kernel_rfl
attribute [go_sem] tab_tagg_96
theorem tab_tsz_97 : tsz Try.prog 97 = (some 1) := by kernel_rfl
attribute [go_sem] tab_tsz_97
theorem tab_tbytes_97 : tbytes Try.prog 97 = (some 8) := by kernel_rfl
attribute [go_sem] tab_tbytes_97
theorem tab_tagg_97 : tagg Try.prog 97 = (some false) := by kernel_rfl
attribute [go_sem] tab_tagg_97
theorem tab_tsz_98 : tsz Try.prog 98 = (some 1) := by kernel_rfl
attribute [go_sem] tab_tsz_98
theorem tab_tbytes_98 : tbytes Try.prog 98 = (some 8) := by kernel_rfl
attribute [go_sem] tab_tbytes_98
theorem tab_tagg_98 : tagg Try.prog 98 = (some false) := by kernel_rfl
attribute [go_sem] tab_tagg_98
theorem tab_tsz_99 : tsz Try.prog 99 = (some 10) := by kernel_rfl
attribute [go_sem] tab_tsz_99
theorem tab_tbytes_99 : tbytes Try.prog 99 = (some 144) := by kernel_rfl
attribute [go_sem] tab_tbytes_99
theorem tab_tagg_99 : tagg Try.prog 99 = (some true) := by kernel_rfl
attribute [go_sem] tab_tagg_99
theorem tab_tfields_99 : tfields Try.prog 99 = (some [(0, (8, true)), (8, (1, false)), (9, (1, false))]) := by kernel_rfl
attribute [go_sem] tab_tfields_99
theorem tab_tsz_100 : tsz Try.prog 100 = (some 10) := by kernel_rfl
attribute [go_sem] tab_tsz_100
theorem tab_tbytes_100 : tbytes Try.prog 100 = (some 144) := by kernel_rfl
attribute [go_sem] tab_tbytes_100
theorem tab_tagg_100 : tagg Try.prog 100 = (some true) := by kernel_rfl
attribute [go_sem] tab_tagg_100
theorem tab_tfields_100 : tfields Try.prog 100 = (some [(0, (8, true)), (8, (1, false)), (9, (1, false))]) := by kernel_rfl
attribute [go_sem] tab_tfields_100
theorem tab_tsz_101 : tsz Try.prog 101 = (some 1) := by kernel_rfl
attribute [go_sem] tab_tsz_101
theorem tab_tbytes_101 : tbytes Try.prog 101 = (some 8) := by kernel_rfl
attribute [go_sem] tab_tbytes_101
theorem tab_tagg_101 : tagg Try.prog 101 = (some false) := by kernel_rfl
attribute [go_sem] tab_tagg_101
theorem tab_tmapK_101 : tmapK Try.prog 101 = (some ((some 2), 104)) := by kernel_rfl
attribute [go_sem] tab_tmapK_101
theorem tab_tsz_102 : tsz Try.prog 102 = (some 2) := by kernel_rfl
attribute [go_sem] tab_tsz_102
theorem tab_tbytes_102 : tbytes Try.prog 102 = (some 16) := by kernel_rfl
attribute [go_sem] tab_tbytes_102
theorem tab_tagg_102 : tagg Try.prog 102 = (some true) := by kernel_rfl
attribute [go_sem] tab_tagg_102
theorem tab_tfields_102 : tfields Try.prog 102 = (some [(0, (1, false)), (1, (1, false))]) := by kernel_rfl
attribute [go_sem] tab_tfields_102
theorem tab_tsz_103 : tsz Try.prog 103 = (some 2) := by kernel_rfl
attribute [go_sem] tab_tsz_103
theorem tab_tbytes_103 : tbytes Try.prog 103 = (some 16) := by kernel_rfl
attribute [go_sem] tab_tbytes_103
theorem tab_tagg_103 : tagg Try.prog 103 = (some true) := by kernel_rfl
attribute [go_sem] tab_tagg_103
theorem tab_tfields_103 : tfields Try.prog 103 = (some [(0, (1, false)), (1, (1, false))]) := by kernel_rfl
attribute [go_sem] tab_tfields_103
theorem tab_tsz_104 : tsz Try.prog 104 = (some 1) := by kernel_rfl
attribute [go_sem] tab_tsz_104
theorem tab_tbytes_104 : tbytes Try.prog 104 = (some 8) := by kernel_rfl
attribute [go_sem] tab_tbytes_104
theorem tab_tagg_104 : tagg Try.prog 104 = (some false) := by kernel_rfl
attribute [go_sem] tab_tagg_104
theorem tab_tsz_105 : tsz Try.prog 105 = (some 1) := by kernel_rfl
attribute [go_sem] tab_tsz_105
theorem tab_tbytes_105 : tbytes Try.prog 105 = (some 0) := by kernel_rfl
attribute [go_sem] tab_tbytes_105
theorem tab_tagg_105 : tagg Try.prog 105 = (some false) := by kernel_rfl
attribute [go_sem] tab_tagg_105
theorem tab_tsz_106 : tsz Try.prog 106 = (some 1) := by kernel_rfl
attribute [go_sem] tab_tsz_106
theorem tab_tbytes_106 : tbytes Try.prog 106 = (some 8) := by kernel_rfl
attribute [go_sem] tab_tbytes_106
theorem tab_tagg_106 : tagg Try.prog 106 = (some false) := by kernel_rfl
attribute [go_sem] tab_tagg_106
theorem tab_tsz_107 : tsz Try.prog 107 = (some 2) := by kernel_rfl
attribute [go_sem] tab_tsz_107
theorem tab_tbytes_107 : tbytes Try.prog 107 = (some 16) := by kernel_rfl
attribute [go_sem] tab_tbytes_107
theorem tab_tagg_107 : tagg Try.prog 107 = (some true) := by kernel_rfl
attribute [go_sem] tab_tagg_107
theorem tab_tfields_107 : tfields Try.prog 107 = (some [(0, (1, false)), (1, (1, false))]) := by kernel_rfl
attribute [go_sem] tab_tfields_107
theorem tab_teq_107 : teq Try.prog 107 = (some [(0, false), (1, false)]) := by kernel_rfl
attribute [go_sem] tab_teq_107
theorem tab_tsz_108 : tsz Try.prog 108 = (some 2) := by kernel_rfl
attribute [go_sem] tab_tsz_108
theorem tab_tbytes_108 : tbytes Try.prog 108 = (some 16) := by kernel_rfl
attribute [go_sem] tab_tbytes_108
theorem tab_tagg_108 : tagg Try.prog 108 = (some true) := by kernel_rfl
attribute [go_sem] tab_tagg_108
theorem tab_tfields_108 : tfields Try.prog 108 = (some [(0, (1, false)), (1, (1, false))]) := by kernel_rfl
attribute [go_sem] tab_tfields_108
theorem tab_teq_108 : teq Try.prog 108 = (some [(0, false), (1, false)]) := by kernel_rfl
attribute [go_sem] tab_teq_108
theorem tab_tsz_109 : tsz Try.prog 109 = (some 3) := by kernel_rfl
attribute [go_sem] tab_tsz_109
theorem tab_tbytes_109 : tbytes Try.prog 109 = (some 24) := by kernel_rfl
attribute [go_sem] tab_tbytes_109
theorem tab_tagg_109 : tagg Try.prog 109 = (some true) := by kernel_rfl
attribute [go_sem] tab_tagg_109
theorem tab_tfields_109 : tfields Try.prog 109 = (some [(0, (1, false)), (1, (1, false)), (2, (1, false))]) := by kernel_rfl
attribute [go_sem] tab_tfields_109
theorem tab_teq_109 : teq Try.prog 109 = (some [(0, false), (1, false), (2, false)]) := by kernel_rfl
attribute [go_sem] tab_teq_109
theorem tab_tsz_110 : tsz Try.prog 110 = (some 3) := by kernel_rfl
attribute [go_sem] tab_tsz_110
theorem tab_tbytes_110 : tbytes Try.prog 110 = (some 24) := by kernel_rfl
attribute [go_sem] tab_tbytes_110
theorem tab_tagg_110 : tagg Try.prog 110 = (some true) := by kernel_rfl
attribute [go_sem] tab_tagg_110
theorem tab_tfields_110 : tfields Try.prog 110 = (some [(0, (1, false)), (1, (1, false)), (2, (1, false))]) := by kernel_rfl
attribute [go_sem] tab_tfields_110
theorem tab_teq_110 : teq Try.prog 110 = (some [(0, false), (1, false), (2, false)]) := by kernel_rfl
attribute [go_sem] tab_teq_110
theorem tab_tsz_111 : tsz Try.prog 111 = (some 4) := by kernel_rfl
attribute [go_sem] tab_tsz_111
theorem tab_tbytes_111 : tbytes Try.prog 111 = (some 32) := by kernel_rfl
attribute [go_sem] tab_tbytes_111
theorem tab_tagg_111 : tagg Try.prog 111 = (some true) := by kernel_rfl
attribute [go_sem] tab_tagg_111
theorem tab_tfields_111 : tfields Try.prog 111 = (some [(0, (1, false)), (1, (3, true))]) := by kernel_rfl
attribute [go_sem] tab_tfields_111
theorem tab_teq_111 : teq Try.prog 111 = (some [(0, false), (1, false), (2, false), (3, false)]) := by kernel_rfl
attribute [go_sem] tab_teq_111
theorem tab_tsz_112 : tsz Try.prog 112 = (some 4) := by kernel_rfl
attribute [go_sem] tab_tsz_112
theorem tab_tbytes_112 : tbytes Try.prog 112 = (some 32) := by kernel_rfl
attribute [go_sem] tab_tbytes_112
theorem tab_tagg_112 : tagg Try.prog 112 = (some true) := by kernel_rfl
attribute [go_sem] tab_tagg_112
theorem tab_tfields_112 : tfields Try.prog 112 = (some [(0, (1, false)), (1, (3, true))]) := by kernel_rfl
attribute [go_sem] tab_tfields_112
theorem tab_teq_112 : teq Try.prog 112 = (some [(0, false), (1, false), (2, false), (3, false)]) := by kernel_rfl
attribute [go_sem] tab_teq_112
theorem tab_tsz_113 : tsz Try.prog 113 = (some 1) := by kernel_rfl
attribute [go_sem] tab_tsz_113
theorem tab_tbytes_113 : tbytes Try.prog 113 = (some 8) := by kernel_rfl
attribute [go_sem] tab_tbytes_113
theorem tab_tagg_113 : tagg Try.prog 113 = (some false) := by kernel_rfl
attribute [go_sem] tab_tagg_113
theorem tab_tsz_114 : tsz Try.prog 114 = (some 1) := by kernel_rfl
attribute [go_sem] tab_tsz_114
theorem tab_tbytes_114 : tbytes Try.prog 114 = (some 0) := by kernel_rfl
attribute [go_sem] tab_tbytes_114
theorem tab_tagg_114 : tagg Try.prog 114 = (some false) := by kernel_rfl
attribute [go_sem] tab_tagg_114
theorem tab_tsz_115 : tsz Try.prog 115 = (some 1) := by kernel_rfl
attribute [go_sem] tab_tsz_115
theorem tab_tbytes_115 : tbytes Try.prog 115 = (some 8) := by kernel_rfl
attribute [go_sem] tab_tbytes_115
theorem tab_tagg_115 : tagg Try.prog 115 = (some false) := by kernel_rfl
attribute [go_sem] tab_tagg_115
theorem tab_tsz_116 : tsz Try.prog 116 = (some 1) := by kernel_rfl
attribute [go_sem] tab_tsz_116
theorem tab_tbytes_116 : tbytes Try.prog 116 = (some 8) := by kernel_rfl
attribute [go_sem] tab_tbytes_116
theorem tab_tagg_116 : tagg Try.prog 116 = (some false) := by kernel_rfl
attribute [go_sem] tab_tagg_116
theorem tab_tsz_117 : tsz Try.prog 117 = (some 6) := by kernel_rfl
attribute [go_sem] tab_tsz_117
theorem tab_tbytes_117 : tbytes Try.prog 117 = (some 48) := by kernel_rfl
attribute [go_sem] tab_tbytes_117
theorem tab_tagg_117 : tagg Try.prog 117 = (some true) := by kernel_rfl
attribute [go_sem] tab_tagg_117
theorem tab_tfields_117 : tfields Try.prog 117 = (some [(0, (1, false)), (1, (1, false)), (2, (4, true))]) := by kernel_rfl
attribute [go_sem] tab_tfields_117
theorem tab_tsz_118 : tsz Try.prog 118 = (some 6) := by kernel_rfl
attribute [go_sem] tab_tsz_118
theorem tab_tbytes_118 : tbytes Try.prog 118 = (some 48) := by kernel_rfl
attribute [go_sem] tab_tbytes_118
theorem tab_tagg_118 : tagg Try.prog 118 = (some true) := by kernel_rfl
attribute [go_sem] tab_tagg_118
theorem tab_tfields_118 : tfields Try.prog 118 = (some [(0, (1, false)), (1, (1, false)), (2, (4, true))]) := by kernel_rfl
attribute [go_sem] tab_tfields_118
theorem tab_tsz_119 : tsz Try.prog 119 = (some 1) := by kernel_rfl
attribute [go_sem] tab_tsz_119
theorem tab_tbytes_119 : tbytes Try.prog 119 = (some 0) := by kernel_rfl
attribute [go_sem] tab_tbytes_119
theorem tab_tagg_119 : tagg Try.prog 119 = (some false) := by kernel_rfl
attribute [go_sem] tab_tagg_119
theorem tab_tsz_120 : tsz Try.prog 120 = (some 1) := by kernel_rfl
attribute [go_sem] tab_tsz_120
theorem tab_tbytes_120 : tbytes Try.prog 120 = (some 8) := by kernel_rfl
attribute [go_sem] tab_tbytes_120
theorem tab_tagg_120 : tagg Try.prog 120 = (some false) := by kernel_rfl
attribute [go_sem] tab_tagg_120
theorem tab_tsz_121 : tsz Try.prog 121 = (some 1) := by kernel_rfl
attribute [go_sem] tab_tsz_121
theorem tab_tbytes_121 : tbytes Try.prog 121 = (some 0) := by kernel_rfl
attribute [go_sem] tab_tbytes_121
theorem tab_tagg_121 : tagg Try.prog 121 = (some false) := by kernel_rfl
attribute [go_sem] tab_tagg_121
theorem tab_tsz_122 : tsz Try.prog 122 = (some 1) := by kernel_rfl
attribute [go_sem] tab_tsz_122
theorem tab_tbytes_122 : tbytes Try.prog 122 = (some 8) := by kernel_rfl
attribute [go_sem] tab_tbytes_122
theorem tab_tagg_122 : tagg Try.prog 122 = (some false) := by kernel_rfl
attribute [go_sem] tab_tagg_122
theorem tab_tsz_123 : tsz Try.prog 123 = (some 1) := by kernel_rfl
attribute [go_sem] tab_tsz_123
theorem tab_tbytes_123 : tbytes Try.prog 123 = (some 24) := by kernel_rfl
attribute [go_sem] tab_tbytes_123
theorem tab_tagg_123 : tagg Try.prog 123 = (some false) := by kernel_rfl
attribute [go_sem] tab_tagg_123
theorem tab_tslice_123 : tslice Try.prog 123 = (some 27) := by kernel_rfl
attribute [go_sem] tab_tslice_123
theorem tab_tsz_124 : tsz Try.prog 124 = (some 1) := by kernel_rfl
attribute [go_sem] tab_tsz_124
theorem tab_tbytes_124 : tbytes Try.prog 124 = (some 0) := by kernel_rfl
attribute [go_sem] tab_tbytes_124
theorem tab_tagg_124 : tagg Try.prog 124 = (some false) := by kernel_rfl
attribute [go_sem] tab_tagg_124
theorem tab_tsz_125 : tsz Try.prog 125 = (some 1) := by kernel_rfl
attribute [go_sem] tab_tsz_125
theorem tab_tbytes_125 : tbytes Try.prog 125 = (some 8) := by kernel_rfl
attribute [go_sem] tab_tbytes_125
theorem tab_tagg_125 : tagg Try.prog 125 = (some false) := by kernel_rfl
attribute [go_sem] tab_tagg_125
theorem tab_tsz_126 : tsz Try.prog 126 = (some 1) := by kernel_rfl
attribute [go_sem] tab_tsz_126
theorem tab_tbytes_126 : tbytes Try.prog 126 = (some 8) := by kernel_rfl
attribute [go_sem] tab_tbytes_126
theorem tab_tagg_126 : tagg Try.prog 126 = (some false) := by kernel_rfl
attribute [go_sem] tab_tagg_126
theorem tab_tsz_127 : tsz Try.prog 127 = (some 1) := by kernel_rfl
attribute [go_sem] tab_tsz_127
theorem tab_tbytes_127 : tbytes Try.prog 127 = (some 8) := by kernel_rfl
attribute [go_sem] tab_tbytes_127
theorem tab_tagg_127 : tagg Try.prog 127 = (some false) := by kernel_rfl
attribute [go_sem] tab_tagg_127
theorem tab_tsz_128 : tsz Try.prog 128 = (some 1) := by kernel_rfl
attribute [go_sem] tab_tsz_128
theorem tab_tbytes_128 : tbytes Try.prog 128 = (some 8) := by kernel_rfl
attribute [go_sem] tab_tbytes_128
theorem tab_tagg_128 : tagg Try.prog 128 = (some false) := by kernel_rfl
attribute [go_sem] tab_tagg_128
theorem tab_tsz_129 : tsz Try.prog 129 = (some 2) := by kernel_rfl
attribute [go_sem] tab_tsz_129
theorem tab_tbytes_129 : tbytes Try.prog 129 = (some 16) := by kernel_rfl
attribute [go_sem] tab_tbytes_129
theorem tab_tagg_129 : tagg Try.prog 129 = (some true) := by kernel_rfl
attribute [go_sem] tab_tagg_129
theorem tab_tfields_129 : tfields Try.prog 129 = (some [(0, (1, false)), (1, (1, false))]) := by kernel_rfl
attribute [go_sem] tab_tfields_129
theorem tab_teq_129 : teq Try.prog 129 = (some [(0, false), (1, true)]) := by kernel_rfl
attribute [go_sem] tab_teq_129
theorem tab_tsz_130 : tsz Try.prog 130 = (some 2) := by kernel_rfl
attribute [go_sem] tab_tsz_130
theorem tab_tbytes_130 : tbytes Try.prog 130 = (some 16) := by kernel_rfl
attribute [go_sem] tab_tbytes_130
theorem tab_tagg_130 : tagg Try.prog 130 = (some true) := by kernel_rfl
attribute [go_sem] tab_tagg_130
theorem tab_tfields_130 : tfields Try.prog 130 = (some [(0, (1, false)), (1, (1, false))]) := by kernel_rfl
attribute [go_sem] tab_tfields_130
theorem tab_teq_130 : teq Try.prog 130 = (some [(0, false), (1, true)]) := by kernel_rfl
attribute [go_sem] tab_teq_130
theorem tab_tsz_131 : tsz Try.prog 131 = (some 1) := by kernel_rfl
attribute [go_sem] tab_tsz_131
theorem tab_tbytes_131 : tbytes Try.prog 131 = (some 8) := by kernel_rfl
attribute [go_sem] tab_tbytes_131
theorem tab_tagg_131 : tagg Try.prog 131 = (some false) := by kernel_rfl
attribute [go_sem] tab_tagg_131
theorem tab_tsz_132 : tsz Try.prog 132 = (some 1) := by kernel_rfl
attribute [go_sem] tab_tsz_132
theorem tab_tbytes_132 : tbytes Try.prog 132 = (some 8) := by kernel_rfl
attribute [go_sem] tab_tbytes_132
theorem tab_tagg_132 : tagg Try.prog 132 = (some false) := by kernel_rfl
attribute [go_sem] tab_tagg_132
theorem tab_tsz_133 : tsz Try.prog 133 = (some 1) := by kernel_rfl
attribute [go_sem] tab_tsz_133
theorem tab_tbytes_133 : tbytes Try.prog 133 = (some 8) := by kernel_rfl
attribute [go_sem] tab_tbytes_133
theorem tab_tagg_133 : tagg Try.prog 133 = (some false) := by kernel_rfl
attribute [go_sem] tab_tagg_133
theorem tab_tsz_134 : tsz Try.prog 134 = (some 1) := by kernel_rfl
attribute [go_sem] tab_tsz_134
theorem tab_tbytes_134 : tbytes Try.prog 134 = (some 8) := by kernel_rfl
attribute [go_sem] tab_tbytes_134
theorem tab_tagg_134 : tagg Try.prog 134 = (some false) := by kernel_rfl
attribute [go_sem] tab_tagg_134
theorem tab_tsz_135 : tsz Try.prog 135 = (some 1) := by kernel_rfl
attribute [go_sem] tab_tsz_135
theorem tab_tbytes_135 : tbytes Try.prog 135 = (some 8) := by kernel_rfl
attribute [go_sem] tab_tbytes_135
theorem tab_tagg_135 : tagg Try.prog 135 = (some false) := by kernel_rfl
attribute [go_sem] tab_tagg_135
theorem tab_tsz_136 : tsz Try.prog 136 = (some 1) := by kernel_rfl
attribute [go_sem] tab_tsz_136
theorem tab_tbytes_136 : tbytes Try.prog 136 = (some 8) := by kernel_rfl
attribute [go_sem] tab_tbytes_136
theorem tab_tagg_136 : tagg Try.prog 136 = (some false) := by kernel_rfl
attribute [go_sem] tab_tagg_136
theorem tab_tsz_137 : tsz Try.prog 137 = (some 1) := by kernel_rfl
attribute [go_sem] tab_tsz_137
theorem tab_tbytes_137 : tbytes Try.prog 137 = (some 8) := by kernel_rfl
attribute [go_sem] tab_tbytes_137
theorem tab_tagg_137 : tagg Try.prog 137 = (some false) := by kernel_rfl
attribute [go_sem] tab_tagg_137
theorem tab_tsz_138 : tsz Try.prog 138 = (some 1) := by kernel_rfl
attribute [go_sem] tab_tsz_138
theorem tab_tbytes_138 : tbytes Try.prog 138 = (some 8) := by kernel_rfl
attribute [go_sem] tab_tbytes_138
theorem tab_tagg_138 : tagg Try.prog 138 = (some false) := by kernel_rfl
attribute [go_sem] tab_tagg_138
theorem tab_tsz_139 : tsz Try.prog 139 = (some 1) := by kernel_rfl
attribute [go_sem] tab_tsz_139
theorem tab_tbytes_139 : tbytes Try.prog 139 = (some 8) := by kernel_rfl
attribute [go_sem] tab_tbytes_139
theorem tab_tagg_139 : tagg Try.prog 139 = (some false) := by kernel_rfl
attribute [go_sem] tab_tagg_139
theorem tab_tsz_140 : tsz Try.prog 140 = (some 1) := by kernel_rfl
attribute [go_sem] tab_tsz_140
theorem tab_tbytes_140 : tbytes Try.prog 140 = (some 8) := by kernel_rfl
attribute [go_sem] tab_tbytes_140
theorem tab_tagg_140 : tagg Try.prog 140 = (some false) := by kernel_rfl
attribute [go_sem] tab_tagg_140
theorem tab_tsz_141 : tsz Try.prog 141 = (some 1) := by kernel_rfl
attribute [go_sem] tab_tsz_141
theorem tab_tbytes_141 : tbytes Try.prog 141 = (some 8) := by kernel_rfl
attribute [go_sem] tab_tbytes_141
theorem tab_tagg_141 : tagg Try.prog 141 = (some false) := by kernel_rfl
attribute [go_sem] tab_tagg_141
theorem tab_tsz_142 : tsz Try.prog 142 = (some 1) := by kernel_rfl
attribute [go_sem] tab_tsz_142
theorem tab_tbytes_142 : tbytes Try.prog 142 = (some 8) := by kernel_rfl
attribute [go_sem] tab_tbytes_142
theorem tab_tagg_142 : tagg Try.prog 142 = (some false) := by kernel_rfl
attribute [go_sem] tab_tagg_142
theorem tab_tsz_143 : tsz Try.prog 143 = (some 1) := by kernel_rfl
attribute [go_sem] tab_tsz_143
theorem tab_tbytes_143 : tbytes Try.prog 143 = (some 8) := by kernel_rfl
attribute [go_sem] tab_tbytes_143
theorem tab_tagg_143 : tagg Try.prog 143 = (some false) := by kernel_rfl
attribute [go_sem] tab_tagg_143
theorem tab_tsz_144 : tsz Try.prog 144 = (some 1) := by kernel_rfl
attribute [go_sem] tab_tsz_144
theorem tab_tbytes_144 : tbytes Try.prog 144 = (some 8) := by kernel_rfl
attribute [go_sem] tab_tbytes_144
theorem tab_tagg_144 : tagg Try.prog 144 = (some false) := by kernel_rfl
attribute [go_sem] tab_tagg_144
theorem tab_tsz_145 : tsz Try.prog 145 = (some 1) := by kernel_rfl
attribute [go_sem] tab_tsz_145
theorem tab_tbytes_145 : tbytes Try.prog 145 = (some 8) := by kernel_rfl
attribute [go_sem] tab_tbytes_145
theorem tab_tagg_145 : tagg Try.prog 145 = (some false) := by kernel_rfl
attribute [go_sem] tab_tagg_145
theorem tab_tsz_146 : tsz Try.prog 146 = (some 1) := by kernel_rfl
attribute [go_sem] tab_tsz_146
theorem tab_tbytes_146 : tbytes Try.prog 146 = (some 0) := by kernel_rfl
attribute [go_sem] tab_tbytes_146
theorem tab_tagg_146 : tagg Try.prog 146 = (some false) := by kernel_rfl
attribute [go_sem] tab_tagg_146
theorem tab_tsz_147 : tsz Try.prog 147 = (some 1) := by kernel_rfl
attribute [go_sem] tab_tsz_147
theorem tab_tbytes_147 : tbytes Try.prog 147 = (some 8) := by kernel_rfl
attribute [go_sem] tab_tbytes_147
theorem tab_tagg_147 : tagg Try.prog 147 = (some false) := by kernel_rfl
attribute [go_sem] tab_tagg_147
theorem tab_tsz_148 : tsz Try.prog 148 = (some 1) := by kernel_rfl
attribute [go_sem] tab_tsz_148
theorem tab_tbytes_148 : tbytes Try.prog 148 = (some 8) := by kernel_rfl
attribute [go_sem] tab_tbytes_148
theorem tab_tagg_148 : tagg Try.prog 148 = (some false) := by kernel_rfl
attribute [go_sem] tab_tagg_148
theorem tab_tsz_149 : tsz Try.prog 149 = (some 1) := by kernel_rfl
attribute [go_sem] tab_tsz_149
theorem tab_tbytes_149 : tbytes Try.prog 149 = (some 8) := by kernel_rfl
attribute [go_sem] tab_tbytes_149
theorem tab_tagg_149 : tagg Try.prog 149 = (some false) := by kernel_rfl
attribute [go_sem] tab_tagg_149
theorem tab_tsz_150 : tsz Try.prog 150 = (some 1) := by kernel_rfl
attribute [go_sem] tab_tsz_150
theorem tab_tbytes_150 : tbytes Try.prog 150 = (some 8) := by kernel_rfl
attribute [go_sem] tab_tbytes_150
theorem tab_tagg_150 : tagg Try.prog 150 = (some false) := by kernel_rfl
attribute [go_sem] tab_tagg_150
theorem tab_tsz_151 : tsz Try.prog 151 = (some 1) := by kernel_rfl
attribute [go_sem] tab_tsz_151
theorem tab_tbytes_151 : tbytes Try.prog 151 = (some 8) := by kernel_rfl
attribute [go_sem] tab_tbytes_151
theorem tab_tagg_151 : tagg Try.prog 151 = (some false) := by kernel_rfl
attribute [go_sem] tab_tagg_151
theorem tab_tsz_152 : tsz Try.prog 152 = (some 1) := by kernel_rfl
attribute [go_sem] tab_tsz_152
theorem tab_tbytes_152 : tbytes Try.prog 152 = (some 8) := by kernel_rfl
attribute [go_sem] tab_tbytes_152
theorem tab_tagg_152 : tagg Try.prog 152 = (some false) := by kernel_rfl
attribute [go_sem] tab_tagg_152
theorem tab_tsz_153 : tsz Try.prog 153 = (some 1) := by kernel_rfl
attribute [go_sem] tab_tsz_153
theorem tab_tbytes_153 : tbytes Try.prog 153 = (some 8) := by kernel_rfl
attribute [go_sem] tab_tbytes_153
theorem tab_tagg_153 : tagg Try.prog 153 = (some false) := by kernel_rfl
attribute [go_sem] tab_tagg_153
theorem tab_tsz_154 : tsz Try.prog 154 = (some 1) := by kernel_rfl
attribute [go_sem] tab_tsz_154
theorem tab_tbytes_154 : tbytes Try.prog 154 = (some 8) := by kernel_rfl
attribute [go_sem] tab_tbytes_154
theorem tab_tagg_154 : tagg Try.prog 154 = (some false) := by kernel_rfl
attribute [go_sem] tab_tagg_154
theorem tab_tsz_155 : tsz Try.prog 155 = (some 1) := by kernel_rfl
attribute [go_sem] tab_tsz_155
theorem tab_tbytes_155 : tbytes Try.prog 155 = (some 8) := by kernel_rfl
attribute [go_sem] tab_tbytes_155
theorem tab_tagg_155 : tagg Try.prog 155 = (some false) := by kernel_rfl
attribute [go_sem] tab_tagg_155
theorem tab_tsz_156 : tsz Try.prog 156 = (some 1) := by kernel_rfl
attribute [go_sem] tab_tsz_156
theorem tab_tbytes_156 : tbytes Try.prog 156 = (some 8) := by kernel_rfl
attribute [go_sem] tab_tbytes_156
theorem tab_tagg_156 : tagg Try.prog 156 = (some false) := by kernel_rfl
attribute [go_sem] tab_tagg_156
theorem tab_tsz_157 : tsz Try.prog 157 = (some 1) := by kernel_rfl
attribute [go_sem] tab_tsz_157
theorem tab_tbytes_157 : tbytes Try.prog 157 = (some 8) := by kernel_rfl
attribute [go_sem] tab_tbytes_157
theorem tab_tagg_157 : tagg Try.prog 157 = (some false) := by kernel_rfl
attribute [go_sem] tab_tagg_157
theorem tab_tsz_158 : tsz Try.prog 158 = (some 1) := by kernel_rfl
attribute [go_sem] tab_tsz_158
theorem tab_tbytes_158 : tbytes Try.prog 158 = (some 8) := by kernel_rfl
attribute [go_sem] tab_tbytes_158
theorem tab_tagg_158 : tagg Try.prog 158 = (some false) := by kernel_rfl
attribute [go_sem] tab_tagg_158
theorem tab_tmapK_158 : tmapK Try.prog 158 = (some (none, 3)) := by kernel_rfl
attribute [go_sem] tab_tmapK_158
theorem tab_tsz_159 : tsz Try.prog 159 = (some 1) := by kernel_rfl
attribute [go_sem] tab_tsz_159
theorem tab_tbytes_159 : tbytes Try.prog 159 = (some 8) := by kernel_rfl
attribute [go_sem] tab_tbytes_159
theorem tab_tagg_159 : tagg Try.prog 159 = (some false) := by kernel_rfl
attribute [go_sem] tab_tagg_159
theorem tab_tsz_160 : tsz Try.prog 160 = (some 1) := by kernel_rfl
attribute [go_sem] tab_tsz_160
theorem tab_tbytes_160 : tbytes Try.prog 160 = (some 8) := by kernel_rfl
attribute [go_sem] tab_tbytes_160
theorem tab_tagg_160 : tagg Try.prog 160 = (some false) := by kernel_rfl
attribute [go_sem] tab_tagg_160
theorem tab_tsz_161 : tsz Try.prog 161 = (some 1) := by kernel_rfl
attribute [go_sem] tab_tsz_161
theorem tab_tbytes_161 : tbytes Try.prog 161 = (some 24) := by kernel_rfl
attribute [go_sem] tab_tbytes_161
theorem tab_tagg_161 : tagg Try.prog 161 = (some false) := by kernel_rfl
attribute [go_sem] tab_tagg_161
theorem tab_tslice_161 : tslice Try.prog 161 = (some 110) := by kernel_rfl
attribute [go_sem] tab_tslice_161
theorem tab_tsz_162 : tsz Try.prog 162 = (some 1) := by kernel_rfl
attribute [go_sem] tab_tsz_162
theorem tab_tbytes_162 : tbytes Try.prog 162 = (some 8) := by kernel_rfl
attribute [go_sem] tab_tbytes_162
theorem tab_tagg_162 : tagg Try.prog 162 = (some false) := by kernel_rfl
attribute [go_sem] tab_tagg_162
theorem tab_tsz_163 : tsz Try.prog 163 = (some 1) := by kernel_rfl
attribute [go_sem] tab_tsz_163
theorem tab_tbytes_163 : tbytes Try.prog 163 = (some 8) := by kernel_rfl
attribute [go_sem] tab_tbytes_163
theorem tab_tagg_163 : tagg Try.prog 163 = (some false) := by kernel_rfl
attribute [go_sem] tab_tagg_163
theorem tab_tsz_164 : tsz Try.prog 164 = (some 1) := by kernel_rfl
attribute [go_sem] tab_tsz_164
theorem tab_tbytes_164 : tbytes Try.prog 164 = (some 8) := by kernel_rfl
attribute [go_sem] tab_tbytes_164
theorem tab_tagg_164 : tagg Try.prog 164 = (some false) := by kernel_rfl
attribute [go_sem] tab_tagg_164
theorem tab_tsz_165 : tsz Try.prog 165 = (some 1) := by kernel_rfl
attribute [go_sem] tab_tsz_165
theorem tab_tbytes_165 : tbytes Try.prog 165 = (some 8) := by kernel_rfl
attribute [go_sem] tab_tbytes_165
theorem tab_tagg_165 : tagg Try.prog 165 = (some false) := by kernel_rfl
attribute [go_sem] tab_tagg_165
theorem tab_tsz_166 : tsz Try.prog 166 = (some 1) := by kernel_rfl
attribute [go_sem] tab_tsz_166
theorem tab_tbytes_166 : tbytes Try.prog 166 = (some 8) := by kernel_rfl
attribute [go_sem] tab_tbytes_166
theorem tab_tagg_166 : tagg Try.prog 166 = (some false) := by kernel_rfl
attribute [go_sem] tab_tagg_166
theorem tab_tsz_167 : tsz Try.prog 167 = (some 1) := by kernel_rfl
attribute [go_sem] tab_tsz_167
theorem tab_tbytes_167 : tbytes Try.prog 167 = (some 8) := by kernel_rfl
attribute [go_sem] tab_tbytes_167
theorem tab_tagg_167 : tagg Try.prog 167 = (some false) := by kernel_rfl
attribute [go_sem] tab_tagg_167
theorem tab_tsz_168 : tsz Try.prog 168 = (some 1) := by kernel_rfl
attribute [go_sem] tab_tsz_168
theorem tab_tbytes_168 : tbytes Try.prog 168 = (some 8) := by kernel_rfl
attribute [go_sem] tab_tbytes_168
theorem tab_tagg_168 : tagg Try.prog 168 = (some false) := by kernel_rfl
attribute [go_sem] tab_tagg_168
theorem tab_tsz_169 : tsz Try.prog 169 = (some 4) := by kernel_rfl
attribute [go_sem] tab_tsz_169
theorem tab_tbytes_169 : tbytes Try.prog 169 = (some 40) := by kernel_rfl
attribute [go_sem] tab_tbytes_169
theorem tab_tagg_169 : tagg Try.prog 169 = (some true) := by kernel_rfl
attribute [go_sem] tab_tagg_169
theorem tab_tfields_169 : tfields Try.prog 169 = (some [(0, (1, false)), (1, (1, false)), (2, (1, false)), (3, (1, false))]) := by kernel_rfl
attribute [go_sem] tab_tfields_169
theorem tab_tsz_170 : tsz Try.prog 170 = (some 4) := by kernel_rfl
attribute [go_sem] tab_tsz_170
theorem tab_tbytes_170 : tbytes Try.prog 170 = (some 40) := by kernel_rfl
attribute [go_sem] tab_tbytes_170
theorem tab_tagg_170 : tagg Try.prog 170 = (some true) := by kernel_rfl
attribute [go_sem] tab_tagg_170
theorem tab_tfields_170 : tfields Try.prog 170 = (some [(0, (1, false)), (1, (1, false)), (2, (1, false)), (3, (1, false))]) := by kernel_rfl
attribute [go_sem] tab_tfields_170
theorem tab_tsz_171 : tsz Try.prog 171 = (some 0) := by kernel_rfl
attribute [go_sem] tab_tsz_171
theorem tab_tbytes_171 : tbytes Try.prog 171 = (some 0) := by kernel_rfl
attribute [go_sem] tab_tbytes_171
theorem tab_tagg_171 : tagg Try.prog 171 = (some true) := by kernel_rfl
attribute [go_sem] tab_tagg_171
theorem tab_tsz_172 : tsz Try.prog 172 = (some 0) := by kernel_rfl
attribute [go_sem] tab_tsz_172
theorem tab_tbytes_172 : tbytes Try.prog 172 = (some 0) := by kernel_rfl
attribute [go_sem] tab_tbytes_172
theorem tab_tagg_172 : tagg Try.prog 172 = (some true) := by kernel_rfl
attribute [go_sem] tab_tagg_172
theorem tab_tfields_172 : tfields Try.prog 172 = (some [(0, (0, true))]) := by kernel_rfl
attribute [go_sem] tab_tfields_172
theorem tab_tsz_173 : tsz Try.prog 173 = (some 0) := by kernel_rfl
attribute [go_sem] tab_tsz_173
theorem tab_tbytes_173 : tbytes Try.prog 173 = (some 0) := by kernel_rfl
attribute [go_sem] tab_tbytes_173
theorem tab_tagg_173 : tagg Try.prog 173 = (some true) := by kernel_rfl
attribute [go_sem] tab_tagg_173
theorem tab_tfields_173 : tfields Try.prog 173 = (some [(0, (0, true))]) := by kernel_rfl
attribute [go_sem] tab_tfields_173
theorem tab_tsz_174 : tsz Try.prog 174 = (some 1) := by kernel_rfl
attribute [go_sem] tab_tsz_174
theorem tab_tbytes_174 : tbytes Try.prog 174 = (some 8) := by kernel_rfl
attribute [go_sem] tab_tbytes_174
theorem tab_tagg_174 : tagg Try.prog 174 = (some false) := by kernel_rfl
attribute [go_sem] tab_tagg_174
theorem tab_tsz_175 : tsz Try.prog 175 = (some 1) := by kernel_rfl
attribute [go_sem] tab_tsz_175
theorem tab_tbytes_175 : tbytes Try.prog 175 = (some 4) := by kernel_rfl
attribute [go_sem] tab_tbytes_175
theorem tab_tagg_175 : tagg Try.prog 175 = (some false) := by kernel_rfl
attribute [go_sem] tab_tagg_175
theorem tab_tint_175 : tint Try.prog 175 = (some IntKind.u32) := by kernel_rfl
attribute [go_sem] tab_tint_175
theorem tab_tsz_176 : tsz Try.prog 176 = (some 1) := by kernel_rfl
attribute [go_sem] tab_tsz_176
theorem tab_tbytes_176 : tbytes Try.prog 176 = (some 1) := by kernel_rfl
attribute [go_sem] tab_tbytes_176
theorem tab_tagg_176 : tagg Try.prog 176 = (some false) := by kernel_rfl
attribute [go_sem] tab_tagg_176
theorem tab_tint_176 : tint Try.prog 176 = (some IntKind.u8) := by kernel_rfl
attribute [go_sem] tab_tint_176
theorem tab_tsz_177 : tsz Try.prog 177 = (some 1) := by kernel_rfl
attribute [go_sem] tab_tsz_177
theorem tab_tbytes_177 : tbytes Try.prog 177 = (some 1) := by kernel_rfl
attribute [go_sem] tab_tbytes_177
theorem tab_tagg_177 : tagg Try.prog 177 = (some false) := by kernel_rfl
attribute [go_sem] tab_tagg_177
theorem tab_tint_177 : tint Try.prog 177 = (some IntKind.u8) := by kernel_rfl
attribute [go_sem] tab_tint_177
theorem tab_tsz_178 : tsz Try.prog 178 = (some 1) := by kernel_rfl
attribute [go_sem] tab_tsz_178
theorem tab_tbytes_178 : tbytes Try.prog 178 = (some 8) := by kernel_rfl
attribute [go_sem] tab_tbytes_178
theorem tab_tagg_178 : tagg Try.prog 178 = (some false) := by kernel_rfl
attribute [go_sem] tab_tagg_178
theorem tab_tsz_179 : tsz Try.prog 179 = (some 1) := by kernel_rfl
attribute [go_sem] tab_tsz_179
theorem tab_tbytes_179 : tbytes Try.prog 179 = (some 8) := by kernel_rfl
attribute [go_sem] tab_tbytes_179
theorem tab_tagg_179 : tagg Try.prog 179 = (some false) := by kernel_rfl
attribute [go_sem] tab_tagg_179
theorem tab_tsz_180 : tsz Try.prog 180 = (some 1) := by kernel_rfl
attribute [go_sem] tab_tsz_180
theorem tab_tbytes_180 : tbytes Try.prog 180 = (some 4) := by kernel_rfl
attribute [go_sem] tab_tbytes_180
theorem tab_tagg_180 : tagg Try.prog 180 = (some false) := by kernel_rfl
attribute [go_sem] tab_tagg_180
theorem tab_tint_180 : tint Try.prog 180 = (some IntKind.i32) := by kernel_rfl
attribute [go_sem] tab_tint_180
theorem tab_tsz_181 : tsz Try.prog 181 = (some 1) := by kernel_rfl
attribute [go_sem] tab_tsz_181
theorem tab_tbytes_181 : tbytes Try.prog 181 = (some 4) := by kernel_rfl
attribute [go_sem] tab_tbytes_181
theorem tab_tagg_181 : tagg Try.prog 181 = (some false) := by kernel_rfl
attribute [go_sem] tab_tagg_181
theorem tab_tint_181 : tint Try.prog 181 = (some IntKind.i32) := by kernel_rfl
attribute [go_sem] tab_tint_181
theorem tab_tsz_182 : tsz Try.prog 182 = (some 11) := by kernel_rfl
attribute [go_sem] tab_tsz_182
theorem tab_tbytes_182 : tbytes Try.prog 182 = (some 48) := by kernel_rfl
attribute [go_sem] tab_tbytes_182
theorem tab_tagg_182 : tagg Try.prog 182 = (some true) := by kernel_rfl
attribute [go_sem] tab_tagg_182
theorem tab_tfields_182 : tfields Try.prog 182 = (some [(0, (1, false)), (1, (1, false)), (2, (1, false)), (3, (1, false)), (4, (1, false)), (5, (1, false)), (6, (1, false)), (7, (1, false)), (8, (1, false)), (9, (1, false)), (10, (1, false))]) := by kernel_rfl
attribute [go_sem] tab_tfields_182
theorem tab_tsz_183 : tsz Try.prog 183 = (some 11) := by kernel_rfl
attribute [go_sem] tab_tsz_183
theorem tab_tbytes_183 : tbytes Try.prog 183 = (some 48) := by kernel_rfl
attribute [go_sem] tab_tbytes_183
theorem tab_tagg_183 : tagg Try.prog 183 = (some true) := by kernel_rfl
attribute [go_sem] tab_tagg_183
theorem tab_tfields_183 : tfields Try.prog 183 = (some [(0, (1, false)), (1, (1, false)), (2, (1, false)), (3, (1, false)), (4, (1, false)), (5, (1, false)), (6, (1, false)), (7, (1, false)), (8, (1, false)), (9, (1, false)), (10, (1, false))]) := by kernel_rfl
attribute [go_sem] tab_tfields_183
theorem tab_tsz_184 : tsz Try.prog 184 = (some 1) := by kernel_rfl
attribute [go_sem] tab_tsz_184
theorem tab_tbytes_184 : tbytes Try.prog 184 = (some 8) := by kernel_rfl
attribute [go_sem] tab_tbytes_184
theorem tab_tagg_184 : tagg Try.prog 184 = (some false) := by kernel_rfl
attribute [go_sem] tab_tagg_184
theorem tab_zero_1 : tzero Try.prog 1 = some Value.nilFunc := by kernel_rfl
attribute [go_sem] tab_zero_1
theorem tab_zero_2 : tzero Try.prog 2 = some (Value.int IntKind.i64 0) := by kernel_rfl
attribute [go_sem] tab_zero_2
theorem tab_zero_3 : tzero Try.prog 3 = some (Value.int IntKind.i64 0) := by kernel_rfl
attribute [go_sem] tab_zero_3
theorem tab_zero_4 : tzero Try.prog 4 = some (Value.bool false) := by kernel_rfl
attribute [go_sem] tab_zero_4
theorem tab_zero_5 : tzero Try.prog 5 = some (Value.int IntKind.u8 0) := by kernel_rfl
attribute [go_sem] tab_zero_5
theorem tab_zero_6 : tzero Try.prog 6 = some (Value.int IntKind.u8 0) := by kernel_rfl
attribute [go_sem] tab_zero_6
theorem tab_zero_7 : tzero Try.prog 7 = some (Value.agg #[Value.int IntKind.i64 0, Value.int IntKind.i64 0, Value.bool false, Value.int IntKind.u8 0]) := by kernel_rfl
attribute [go_sem] tab_zero_7
theorem tab_zero_8 : tzero Try.prog 8 = some (Value.agg #[Value.int IntKind.i64 0, Value.int IntKind.i64 0, Value.bool false, Value.int IntKind.u8 0]) := by kernel_rfl
attribute [go_sem] tab_zero_8
theorem tab_zero_12 : tzero Try.prog 12 = some (Value.int IntKind.u64 0) := by kernel_rfl
attribute [go_sem] tab_zero_12
theorem tab_zero_15 : tzero Try.prog 15 = some (Value.pointer none) := by kernel_rfl
attribute [go_sem] tab_zero_15
theorem tab_zero_16 : tzero Try.prog 16 = some (Value.pointer none) := by kernel_rfl
attribute [go_sem] tab_zero_16
theorem tab_zero_17 : tzero Try.prog 17 = some (Value.pointer none) := by kernel_rfl
attribute [go_sem] tab_zero_17
theorem tab_zero_18 : tzero Try.prog 18 = some (Value.agg #[Value.pointer none]) := by kernel_rfl
attribute [go_sem] tab_zero_18
theorem tab_zero_19 : tzero Try.prog 19 = some (Value.agg #[Value.pointer none]) := by kernel_rfl
attribute [go_sem] tab_zero_19
theorem tab_zero_21 : tzero Try.prog 21 = some (Value.int IntKind.i32 0) := by kernel_rfl
attribute [go_sem] tab_zero_21
theorem tab_zero_22 : tzero Try.prog 22 = some (Value.slice none 0 0) := by kernel_rfl
attribute [go_sem] tab_zero_22
theorem tab_zero_23 : tzero Try.prog 23 = some (Value.agg #[Value.slice none 0 0]) := by kernel_rfl
attribute [go_sem] tab_zero_23
theorem tab_zero_24 : tzero Try.prog 24 = some (Value.agg #[Value.slice none 0 0]) := by kernel_rfl
attribute [go_sem] tab_zero_24
theorem tab_zero_25 : tzero Try.prog 25 = some (Value.slice none 0 0) := by kernel_rfl
attribute [go_sem] tab_zero_25
theorem tab_zero_26 : tzero Try.prog 26 = some (Value.agg #[Value.int IntKind.i64 0, Value.int IntKind.i64 0]) := by kernel_rfl
attribute [go_sem] tab_zero_26
theorem tab_zero_27 : tzero Try.prog 27 = some (Value.agg #[Value.int IntKind.i64 0, Value.int IntKind.i64 0]) := by kernel_rfl
attribute [go_sem] tab_zero_27
theorem tab_zero_28 : tzero Try.prog 28 = some (Value.agg #[Value.int IntKind.i64 0, Value.int IntKind.i64 0, Value.int IntKind.i64 0, Value.int IntKind.i64 0, Value.int IntKind.i64 0]) := by kernel_rfl
attribute [go_sem] tab_zero_28
theorem tab_zero_29 : tzero Try.prog 29 = some (Value.agg #[Value.int IntKind.i64 0, Value.int IntKind.i64 0, Value.int IntKind.i64 0, Value.int IntKind.i64 0, Value.int IntKind.i64 0]) := by kernel_rfl
attribute [go_sem] tab_zero_29
theorem tab_zero_30 : tzero Try.prog 30 = some (Value.slice none 0 0) := by kernel_rfl
attribute [go_sem] tab_zero_30
theorem tab_zero_31 : tzero Try.prog 31 = some (Value.agg #[Value.slice none 0 0, Value.slice none 0 0, Value.int IntKind.i64 0, Value.int IntKind.i64 0, Value.int IntKind.i64 0, Value.int IntKind.i64 0, Value.int IntKind.i64 0, Value.slice none 0 0]) := by kernel_rfl
attribute [go_sem] tab_zero_31
theorem tab_zero_32 : tzero Try.prog 32 = some (Value.agg #[Value.slice none 0 0, Value.slice none 0 0, Value.int IntKind.i64 0, Value.int IntKind.i64 0, Value.int IntKind.i64 0, Value.int IntKind.i64 0, Value.int IntKind.i64 0, Value.slice none 0 0]) := by kernel_rfl
attribute [go_sem] tab_zero_32
theorem tab_zero_33 : tzero Try.prog 33 = some (Value.slice none 0 0) := by kernel_rfl
attribute [go_sem] tab_zero_33
theorem tab_zero_34 : tzero Try.prog 34 = some (Value.slice none 0 0) := by kernel_rfl
attribute [go_sem] tab_zero_34
theorem tab_zero_35 : tzero Try.prog 35 = some (Value.agg #[Value.slice none 0 0, Value.slice none 0 0, Value.int IntKind.i64 0, Value.int IntKind.i64 0]) := by kernel_rfl
attribute [go_sem] tab_zero_35
theorem tab_zero_36 : tzero Try.prog 36 = some (Value.agg #[Value.slice none 0 0, Value.slice none 0 0, Value.int IntKind.i64 0, Value.int IntKind.i64 0]) := by kernel_rfl
attribute [go_sem] tab_zero_36
theorem tab_zero_37 : tzero Try.prog 37 = some Value.nilFunc := by kernel_rfl
attribute [go_sem] tab_zero_37
theorem tab_zero_38 : tzero Try.prog 38 = some Value.nilFunc := by kernel_rfl
attribute [go_sem] tab_zero_38
theorem tab_zero_39 : tzero Try.prog 39 = some Value.nilFunc := by kernel_rfl
attribute [go_sem] tab_zero_39
theorem tab_zero_40 : tzero Try.prog 40 = some Value.nilFunc := by kernel_rfl
attribute [go_sem] tab_zero_40
theorem tab_zero_41 : tzero Try.prog 41 = some (Value.int IntKind.i64 0) := by kernel_rfl
attribute [go_sem] tab_zero_41
theorem tab_zero_43 : tzero Try.prog 43 = some Value.nilFunc := by kernel_rfl
attribute [go_sem] tab_zero_43
theorem tab_zero_45 : tzero Try.prog 45 = some Value.nilFunc := by kernel_rfl
attribute [go_sem] tab_zero_45
theorem tab_zero_46 : tzero Try.prog 46 = some (Value.agg #[Value.int IntKind.i64 0, Value.int IntKind.i64 0, Value.int IntKind.i64 0, Value.int IntKind.i64 0]) := by kernel_rfl
attribute [go_sem] tab_zero_46
theorem tab_zero_47 : tzero Try.prog 47 = some (Value.agg #[Value.int IntKind.i64 0, Value.int IntKind.i64 0, Value.int IntKind.i64 0, Value.int IntKind.i64 0]) := by kernel_rfl
attribute [go_sem] tab_zero_47
theorem tab_zero_48 : tzero Try.prog 48 = some (Value.agg #[Value.int IntKind.i64 0, Value.int IntKind.i64 0, Value.int IntKind.i64 0, Value.int IntKind.i64 0, Value.int IntKind.i64 0, Value.int IntKind.i64 0, Value.int IntKind.i64 0]) := by kernel_rfl
attribute [go_sem] tab_zero_48
theorem tab_zero_49 : tzero Try.prog 49 = some (Value.agg #[Value.int IntKind.i64 0, Value.int IntKind.i64 0, Value.int IntKind.i64 0, Value.int IntKind.i64 0, Value.int IntKind.i64 0, Value.int IntKind.i64 0, Value.int IntKind.i64 0]) := by kernel_rfl
attribute [go_sem] tab_zero_49
theorem tab_zero_50 : tzero Try.prog 50 = some Value.nilFunc := by kernel_rfl
attribute [go_sem] tab_zero_50
theorem tab_zero_51 : tzero Try.prog 51 = some (Value.agg #[Value.int IntKind.i64 0, Value.int IntKind.i64 0, Value.int IntKind.i64 0]) := by kernel_rfl
attribute [go_sem] tab_zero_51
theorem tab_zero_52 : tzero Try.prog 52 = some (Value.agg #[Value.int IntKind.i64 0, Value.int IntKind.i64 0, Value.int IntKind.i64 0]) := by kernel_rfl
attribute [go_sem] tab_zero_52
theorem tab_zero_53 : tzero Try.prog 53 = some Value.nilFunc := by kernel_rfl
attribute [go_sem] tab_zero_53
theorem tab_zero_54 : tzero Try.prog 54 = some (Value.agg #[Value.int IntKind.i64 0, Value.int IntKind.i64 0, Value.int IntKind.i64 0, Value.int IntKind.i64 0]) := by kernel_rfl
attribute [go_sem] tab_zero_54
theorem tab_zero_55 : tzero Try.prog 55 = some (Value.agg #[Value.int IntKind.i64 0, Value.int IntKind.i64 0, Value.int IntKind.i64 0, Value.int IntKind.i64 0]) := by kernel_rfl
attribute [go_sem] tab_zero_55
theorem tab_zero_56 : tzero Try.prog 56 = some Value.nilFunc := by kernel_rfl
attribute [go_sem] tab_zero_56
theorem tab_zero_57 : tzero Try.prog 57 = some (Value.slice none 0 0) := by kernel_rfl
attribute [go_sem] tab_zero_57
theorem tab_zero_59 : tzero Try.prog 59 = some Value.nilFunc := by kernel_rfl
attribute [go_sem] tab_zero_59
theorem tab_zero_60 : tzero Try.prog 60 = some Value.nilFunc := by kernel_rfl
attribute [go_sem] tab_zero_60
theorem tab_zero_61 : tzero Try.prog 61 = some (Value.slice none 0 0) := by kernel_rfl
attribute [go_sem] tab_zero_61
theorem tab_zero_63 : tzero Try.prog 63 = some Value.nilFunc := by kernel_rfl
attribute [go_sem] tab_zero_63
theorem tab_zero_64 : tzero Try.prog 64 = some (Value.agg #[Value.int IntKind.i64 0, Value.int IntKind.i64 0]) := by kernel_rfl
attribute [go_sem] tab_zero_64
theorem tab_zero_65 : tzero Try.prog 65 = some (Value.agg #[Value.int IntKind.i64 0, Value.int IntKind.i64 0]) := by kernel_rfl
attribute [go_sem] tab_zero_65
theorem tab_zero_66 : tzero Try.prog 66 = some Value.nilFunc := by kernel_rfl
attribute [go_sem] tab_zero_66
theorem tab_zero_67 : tzero Try.prog 67 = some (Value.agg #[Value.int IntKind.i64 0, Value.int IntKind.i64 0, Value.int IntKind.i64 0, Value.int IntKind.i64 0, Value.int IntKind.i64 0, Value.int IntKind.i64 0, Value.int IntKind.i64 0, Value.int IntKind.i64 0, Value.int IntKind.i64 0, Value.int IntKind.i64 0, Value.int IntKind.i64 0]) := by kernel_rfl
attribute [go_sem] tab_zero_67
theorem tab_zero_68 : tzero Try.prog 68 = some (Value.agg #[Value.int IntKind.i64 0, Value.int IntKind.i64 0, Value.int IntKind.i64 0, Value.int IntKind.i64 0, Value.int IntKind.i64 0, Value.int IntKind.i64 0, Value.int IntKind.i64 0, Value.int IntKind.i64 0, Value.int IntKind.i64 0, Value.int IntKind.i64 0, Value.int IntKind.i64 0]) := by kernel_rfl
attribute [go_sem] tab_zero_68
theorem tab_zero_69 : tzero Try.prog 69 = some Value.nilFunc := by kernel_rfl
attribute [go_sem] tab_zero_69
theorem tab_zero_70 : tzero Try.prog 70 = some Value.nilFunc := by kernel_rfl
attribute [go_sem] tab_zero_70
theorem tab_zero_71 : tzero Try.prog 71 = some Value.nilFunc := by kernel_rfl
attribute [go_sem] tab_zero_71
theorem tab_zero_72 : tzero Try.prog 72 = some Value.nilFunc := by kernel_rfl
attribute [go_sem] tab_zero_72
theorem tab_zero_73 : tzero Try.prog 73 = some Value.nilFunc := by kernel_rfl
attribute [go_sem] tab_zero_73
theorem tab_zero_74 : tzero Try.prog 74 = some (Value.agg #[Value.int IntKind.i64 0, Value.int IntKind.i64 0, Value.int IntKind.i64 0, Value.int IntKind.i64 0, Value.int IntKind.i64 0, Value.int IntKind.i64 0]) := by kernel_rfl
attribute [go_sem] tab_zero_74
theorem tab_zero_75 : tzero Try.prog 75 = some (Value.agg #[Value.int IntKind.i64 0, Value.int IntKind.i64 0, Value.int IntKind.i64 0, Value.int IntKind.i64 0, Value.int IntKind.i64 0, Value.int IntKind.i64 0]) := by kernel_rfl
attribute [go_sem] tab_zero_75
theorem tab_zero_76 : tzero Try.prog 76 = some (Value.slice none 0 0) := by kernel_rfl
attribute [go_sem] tab_zero_76
theorem tab_zero_77 : tzero Try.prog 77 = some (Value.agg #[Value.slice none 0 0]) := by kernel_rfl
attribute [go_sem] tab_zero_77
theorem tab_zero_78 : tzero Try.prog 78 = some (Value.agg #[Value.slice none 0 0]) := by kernel_rfl
attribute [go_sem] tab_zero_78
theorem tab_zero_79 : tzero Try.prog 79 = some Value.nilFunc := by kernel_rfl
attribute [go_sem] tab_zero_79
theorem tab_zero_80 : tzero Try.prog 80 = some Value.nilFunc := by kernel_rfl
attribute [go_sem] tab_zero_80
theorem tab_zero_81 : tzero Try.prog 81 = some Value.nilFunc := by kernel_rfl
attribute [go_sem] tab_zero_81
theorem tab_zero_82 : tzero Try.prog 82 = some (Value.pointer none) := by kernel_rfl
attribute [go_sem] tab_zero_82
theorem tab_zero_84 : tzero Try.prog 84 = some Value.nilFunc := by kernel_rfl
attribute [go_sem] tab_zero_84
theorem tab_zero_85 : tzero Try.prog 85 = some (Value.agg #[Value.int IntKind.i64 0, Value.int IntKind.i64 0, Value.int IntKind.i64 0, Value.int IntKind.i64 0]) := by kernel_rfl
attribute [go_sem] tab_zero_85
theorem tab_zero_86 : tzero Try.prog 86 = some (Value.agg #[Value.int IntKind.i64 0, Value.int IntKind.i64 0, Value.int IntKind.i64 0, Value.int IntKind.i64 0]) := by kernel_rfl
attribute [go_sem] tab_zero_86
theorem tab_zero_87 : tzero Try.prog 87 = some (Value.pointer none) := by kernel_rfl
attribute [go_sem] tab_zero_87
theorem tab_zero_89 : tzero Try.prog 89 = some Value.nilFunc := by kernel_rfl
attribute [go_sem] tab_zero_89
theorem tab_zero_90 : tzero Try.prog 90 = some (Value.slice none 0 0) := by kernel_rfl
attribute [go_sem] tab_zero_90
theorem tab_zero_91 : tzero Try.prog 91 = some (Value.agg #[Value.slice none 0 0, Value.slice none 0 0, Value.int IntKind.i64 0]) := by kernel_rfl
attribute [go_sem] tab_zero_91
theorem tab_zero_92 : tzero Try.prog 92 = some (Value.agg #[Value.slice none 0 0, Value.slice none 0 0, Value.int IntKind.i64 0]) := by kernel_rfl
attribute [go_sem] tab_zero_92
theorem tab_zero_93 : tzero Try.prog 93 = some Value.nilFunc := by kernel_rfl
attribute [go_sem] tab_zero_93
theorem tab_zero_94 : tzero Try.prog 94 = some (Value.slice none 0 0) := by kernel_rfl
attribute [go_sem] tab_zero_94
theorem tab_zero_95 : tzero Try.prog 95 = some Value.nilFunc := by kernel_rfl
attribute [go_sem] tab_zero_95
theorem tab_zero_96 : tzero Try.prog 96 = some Value.nilFunc := by kernel_rfl
attribute [go_sem] tab_zero_96
theorem tab_zero_97 : tzero Try.prog 97 = some Value.nilFunc := by kernel_rfl
attribute [go_sem] tab_zero_97
theorem tab_zero_98 : tzero Try.prog 98 = some Value.nilFunc := by kernel_rfl
attribute [go_sem] tab_zero_98
theorem tab_zero_99 : tzero Try.prog 99 = some (Value.agg #[Value.slice none 0 0, Value.slice none 0 0, Value.int IntKind.i64 0, Value.int IntKind.i64 0, Value.int IntKind.i64 0, Value.int IntKind.i64 0, Value.int IntKind.i64 0, Value.slice none 0 0, Value.slice none 0 0, Value.int IntKind.i64 0]) := by kernel_rfl
attribute [go_sem] tab_zero_99
theorem tab_zero_100 : tzero Try.prog 100 = some (Value.agg #[Value.slice none 0 0, Value.slice none 0 0, Value.int IntKind.i64 0, Value.int IntKind.i64 0, Value.int IntKind.i64 0, Value.int IntKind.i64 0, Value.int IntKind.i64 0, Value.slice none 0 0, Value.slice none 0 0, Value.int IntKind.i64 0]) := by kernel_rfl
attribute [go_sem] tab_zero_100
theorem tab_zero_101 : tzero Try.prog 101 = some (Value.map none) := by kernel_rfl
attribute [go_sem] tab_zero_101
theorem tab_zero_102 : tzero Try.prog 102 = some (Value.agg #[Value.pointer none, Value.map none]) := by kernel_rfl
attribute [go_sem] tab_zero_102
theorem tab_zero_103 : tzero Try.prog 103 = some (Value.agg #[Value.pointer none, Value.map none]) := by kernel_rfl
attribute [go_sem] tab_zero_103
theorem tab_zero_104 : tzero Try.prog 104 = some (Value.pointer none) := by kernel_rfl
attribute [go_sem] tab_zero_104
theorem tab_zero_106 : tzero Try.prog 106 = some Value.nilFunc := by kernel_rfl
attribute [go_sem] tab_zero_106
theorem tab_zero_107 : tzero Try.prog 107 = some (Value.agg #[Value.int IntKind.i64 0, Value.int IntKind.i64 0]) := by kernel_rfl
attribute [go_sem] tab_zero_107
theorem tab_zero_108 : tzero Try.prog 108 = some (Value.agg #[Value.int IntKind.i64 0, Value.int IntKind.i64 0]) := by kernel_rfl
attribute [go_sem] tab_zero_108
theorem tab_zero_109 : tzero Try.prog 109 = some (Value.agg #[Value.int IntKind.i64 0, Value.int IntKind.i64 0, Value.int IntKind.i64 0]) := by kernel_rfl
attribute [go_sem] tab_zero_109
theorem tab_zero_110 : tzero Try.prog 110 = some (Value.agg #[Value.int IntKind.i64 0, Value.int IntKind.i64 0, Value.int IntKind.i64 0]) := by kernel_rfl
attribute [go_sem] tab_zero_110
theorem tab_zero_111 : tzero Try.prog 111 = some (Value.agg #[Value.int IntKind.i64 0, Value.int IntKind.i64 0, Value.int IntKind.i64 0, Value.int IntKind.i64 0]) := by kernel_rfl
attribute [go_sem] tab_zero_111
theorem tab_zero_112 : tzero Try.prog 112 = some (Value.agg #[Value.int IntKind.i64 0, Value.int IntKind.i64 0, Value.int IntKind.i64 0, Value.int IntKind.i64 0]) := by kernel_rfl
attribute [go_sem] tab_zero_112
theorem tab_zero_113 : tzero Try.prog 113 = some Value.nilFunc := by kernel_rfl
attribute [go_sem] tab_zero_113
theorem tab_zero_115 : tzero Try.prog 115 = some Value.nilFunc := by kernel_rfl
attribute [go_sem] tab_zero_115
theorem tab_zero_116 : tzero Try.prog 116 = some Value.nilFunc := by kernel_rfl
attribute [go_sem] tab_zero_116
theorem tab_zero_117 : tzero Try.prog 117 = some (Value.agg #[Value.int IntKind.i64 0, Value.int IntKind.i64 0, Value.int IntKind.i64 0, Value.int IntKind.i64 0, Value.int IntKind.i64 0, Value.int IntKind.i64 0]) := by kernel_rfl
attribute [go_sem] tab_zero_117
theorem tab_zero_118 : tzero Try.prog 118 = some (Value.agg #[Value.int IntKind.i64 0, Value.int IntKind.i64 0, Value.int IntKind.i64 0, Value.int IntKind.i64 0, Value.int IntKind.i64 0, Value.int IntKind.i64 0]) := by kernel_rfl
attribute [go_sem] tab_zero_118
theorem tab_zero_120 : tzero Try.prog 120 = some Value.nilFunc := by kernel_rfl
attribute [go_sem] tab_zero_120
theorem tab_zero_122 : tzero Try.prog 122 = some Value.nilFunc := by kernel_rfl
attribute [go_sem] tab_zero_122
theorem tab_zero_123 : tzero Try.prog 123 = some (Value.slice none 0 0) := by kernel_rfl
attribute [go_sem] tab_zero_123
theorem tab_zero_125 : tzero Try.prog 125 = some Value.nilFunc := by kernel_rfl
attribute [go_sem] tab_zero_125
theorem tab_zero_126 : tzero Try.prog 126 = some Value.nilFunc := by kernel_rfl
attribute [go_sem] tab_zero_126
theorem tab_zero_127 : tzero Try.prog 127 = some Value.nilFunc := by kernel_rfl
attribute [go_sem] tab_zero_127
theorem tab_zero_128 : tzero Try.prog 128 = some Value.nilFunc := by kernel_rfl
attribute [go_sem] tab_zero_128
theorem tab_zero_129 : tzero Try.prog 129 = some (Value.agg #[Value.int IntKind.i64 0, Value.bool false]) := by kernel_rfl
attribute [go_sem] tab_zero_129
theorem tab_zero_130 : tzero Try.prog 130 = some (Value.agg #[Value.int IntKind.i64 0, Value.bool false]) := by kernel_rfl
attribute [go_sem] tab_zero_130
theorem tab_zero_131 : tzero Try.prog 131 = some Value.nilFunc := by kernel_rfl
attribute [go_sem] tab_zero_131
theorem tab_zero_132 : tzero Try.prog 132 = some Value.nilFunc := by kernel_rfl
attribute [go_sem] tab_zero_132
theorem tab_zero_133 : tzero Try.prog 133 = some Value.nilFunc := by kernel_rfl
attribute [go_sem] tab_zero_133
theorem tab_zero_134 : tzero Try.prog 134 = some Value.nilFunc := by kernel_rfl
attribute [go_sem] tab_zero_134
theorem tab_zero_135 : tzero Try.prog 135 = some Value.nilFunc := by kernel_rfl
attribute [go_sem] tab_zero_135
theorem tab_zero_136 : tzero Try.prog 136 = some Value.nilFunc := by kernel_rfl
attribute [go_sem] tab_zero_136
theorem tab_zero_137 : tzero Try.prog 137 = some Value.nilFunc := by kernel_rfl
attribute [go_sem] tab_zero_137
theorem tab_zero_138 : tzero Try.prog 138 = some Value.nilFunc := by kernel_rfl
attribute [go_sem] tab_zero_138
theorem tab_zero_139 : tzero Try.prog 139 = some Value.nilFunc := by kernel_rfl
attribute [go_sem] tab_zero_139
theorem tab_zero_140 : tzero Try.prog 140 = some Value.nilFunc := by kernel_rfl
attribute [go_sem] tab_zero_140
theorem tab_zero_141 : tzero Try.prog 141 = some Value.nilFunc := by kernel_rfl
attribute [go_sem] tab_zero_141
theorem tab_zero_142 : tzero Try.prog 142 = some Value.nilFunc := by kernel_rfl
attribute [go_sem] tab_zero_142
theorem tab_zero_143 : tzero Try.prog 143 = some Value.nilFunc := by kernel_rfl
attribute [go_sem] tab_zero_143
theorem tab_zero_144 : tzero Try.prog 144 = some Value.nilFunc := by kernel_rfl
attribute [go_sem] tab_zero_144
theorem tab_zero_145 : tzero Try.prog 145 = some Value.nilFunc := by kernel_rfl
attribute [go_sem] tab_zero_145
theorem tab_zero_147 : tzero Try.prog 147 = some Value.nilFunc := by kernel_rfl
attribute [go_sem] tab_zero_147
theorem tab_zero_148 : tzero Try.prog 148 = some Value.nilFunc := by kernel_rfl
attribute [go_sem] tab_zero_148
theorem tab_zero_149 : tzero Try.prog 149 = some Value.nilFunc := by kernel_rfl
attribute [go_sem] tab_zero_149
theorem tab_zero_150 : tzero Try.prog 150 = some Value.nilFunc := by kernel_rfl
attribute [go_sem] tab_zero_150
theorem tab_zero_151 : tzero Try.prog 151 = some Value.nilFunc := by kernel_rfl
attribute [go_sem] tab_zero_151
theorem tab_zero_152 : tzero Try.prog 152 = some Value.nilFunc := by kernel_rfl
attribute [go_sem] tab_zero_152
theorem tab_zero_153 : tzero Try.prog 153 = some Value.nilFunc := by kernel_rfl
attribute [go_sem] tab_zero_153
theorem tab_zero_154 : tzero Try.prog 154 = some Value.nilFunc := by kernel_rfl
attribute [go_sem] tab_zero_154
theorem tab_zero_155 : tzero Try.prog 155 = some Value.nilFunc := by kernel_rfl
attribute [go_sem] tab_zero_155
theorem tab_zero_156 : tzero Try.prog 156 = some Value.nilFunc := by kernel_rfl
attribute [go_sem] tab_zero_156
theorem tab_zero_157 : tzero Try.prog 157 = some Value.nilFunc := by kernel_rfl
attribute [go_sem] tab_zero_157
theorem tab_zero_158 : tzero Try.prog 158 = some (Value.map none) := by kernel_rfl
attribute [go_sem] tab_zero_158
theorem tab_zero_159 : tzero Try.prog 159 = some Value.nilFunc := by kernel_rfl
attribute [go_sem] tab_zero_159
theorem tab_zero_160 : tzero Try.prog 160 = some Value.nilFunc := by kernel_rfl
attribute [go_sem] tab_zero_160
theorem tab_zero_161 : tzero Try.prog 161 = some (Value.slice none 0 0) := by kernel_rfl
attribute [go_sem] tab_zero_161
theorem tab_zero_162 : tzero Try.prog 162 = some Value.nilFunc := by kernel_rfl
attribute [go_sem] tab_zero_162
theorem tab_zero_163 : tzero Try.prog 163 = some Value.nilFunc := by kernel_rfl
attribute [go_sem] tab_zero_163
theorem tab_zero_164 : tzero Try.prog 164 = some Value.nilFunc := by kernel_rfl
attribute [go_sem] tab_zero_164
theorem tab_zero_165 : tzero Try.prog 165 = some Value.nilFunc := by kernel_rfl
attribute [go_sem] tab_zero_165
theorem tab_zero_166 : tzero Try.prog 166 = some Value.nilFunc := by kernel_rfl
attribute [go_sem] tab_zero_166
theorem tab_zero_167 : tzero Try.prog 167 = some Value.nilFunc := by kernel_rfl
attribute [go_sem] tab_zero_167
theorem tab_zero_168 : tzero Try.prog 168 = some Value.nilFunc := by kernel_rfl
attribute [go_sem] tab_zero_168
theorem tab_zero_171 : tzero Try.prog 171 = some (Value.agg #[]) := by kernel_rfl
attribute [go_sem] tab_zero_171
theorem tab_zero_172 : tzero Try.prog 172 = some (Value.agg #[]) := by kernel_rfl
attribute [go_sem] tab_zero_172
theorem tab_zero_173 : tzero Try.prog 173 = some (Value.agg #[]) := by kernel_rfl
attribute [go_sem] tab_zero_173
theorem tab_zero_174 : tzero Try.prog 174 = some Value.nilFunc := by kernel_rfl
attribute [go_sem] tab_zero_174
theorem tab_zero_175 : tzero Try.prog 175 = some (Value.int IntKind.u32 0) := by kernel_rfl
attribute [go_sem] tab_zero_175
theorem tab_zero_176 : tzero Try.prog 176 = some (Value.int IntKind.u8 0) := by kernel_rfl
attribute [go_sem] tab_zero_176
theorem tab_zero_177 : tzero Try.prog 177 = some (Value.int IntKind.u8 0) := by kernel_rfl
attribute [go_sem] tab_zero_177
theorem tab_zero_178 : tzero Try.prog 178 = some Value.nilFunc := by kernel_rfl
attribute [go_sem] tab_zero_178
theorem tab_zero_179 : tzero Try.prog 179 = some (Value.pointer none) := by kernel_rfl
attribute [go_sem] tab_zero_179
theorem tab_zero_180 : tzero Try.prog 180 = some (Value.int IntKind.i32 0) := by kernel_rfl
attribute [go_sem] tab_zero_180
theorem tab_zero_181 : tzero Try.prog 181 = some (Value.int IntKind.i32 0) := by kernel_rfl
attribute [go_sem] tab_zero_181
theorem tab_zero_182 : tzero Try.prog 182 = some (Value.agg #[Value.int IntKind.u64 0, Value.int IntKind.u64 0, Value.int IntKind.u32 0, Value.int IntKind.u8 0, Value.int IntKind.u8 0, Value.int IntKind.u8 0, Value.int IntKind.u8 0, Value.nilFunc, Value.pointer none, Value.int IntKind.i32 0, Value.int IntKind.i32 0]) := by kernel_rfl
attribute [go_sem] tab_zero_182
theorem tab_zero_183 : tzero Try.prog 183 = some (Value.agg #[Value.int IntKind.u64 0, Value.int IntKind.u64 0, Value.int IntKind.u32 0, Value.int IntKind.u8 0, Value.int IntKind.u8 0, Value.int IntKind.u8 0, Value.int IntKind.u8 0, Value.nilFunc, Value.pointer none, Value.int IntKind.i32 0, Value.int IntKind.i32 0]) := by kernel_rfl
attribute [go_sem] tab_zero_183
theorem tab_zero_184 : tzero Try.prog 184 = some (Value.pointer none) := by kernel_rfl
attribute [go_sem] tab_zero_184
attribute [go_sem] Try.underlying2
attribute [go_sem] Try.underlying3
attribute [go_sem] Try.underlying4
attribute [go_sem] Try.underlying5
attribute [go_sem] Try.underlying6
attribute [go_sem] Try.underlying12
attribute [go_sem] Try.underlying15
attribute [go_sem] Try.underlying16
attribute [go_sem] Try.underlying17
attribute [go_sem] Try.underlying21
attribute [go_sem] Try.underlying41
attribute [go_sem] Try.underlying82
attribute [go_sem] Try.underlying87
attribute [go_sem] Try.underlying104
attribute [go_sem] Try.underlying175
attribute [go_sem] Try.underlying176
attribute [go_sem] Try.underlying177
attribute [go_sem] Try.underlying179
attribute [go_sem] Try.underlying180
attribute [go_sem] Try.underlying181
end Go.Ab
namespace Go.Ab
open Go.RowKit Go.Proofs
structure Span where
  lo : Int
  hi : Int
structure Hour where
  wind : Span
  rain : Span
  temp : Span
structure Sky where
  wind : Int
  rain : Int
  temp : Int
structure Sight where
  hour : Int
  sky : Sky
def Span.row (s : Span) : List DV := [.i s.lo, .i s.hi]
def Hour.row (h : Hour) : List DV := [.i h.wind.lo, .i h.wind.hi, .i h.rain.lo, .i h.rain.hi, .i h.temp.lo, .i h.temp.hi]
def Sky.row (s : Sky) : List DV := [.i s.wind, .i s.rain, .i s.temp]
def Sight.row (s : Sight) : List DV := [.i s.hour, .i s.sky.wind, .i s.sky.rain, .i s.sky.temp]
def hourRows (l : List Hour) : List (List DV) := l.map Hour.row
def scenRows (l : List (List Hour)) : List (List DV) := l.map fun h => [.sl (hourRows h)]
def intRows (l : List Int) : List (List DV) := l.map fun x => [.i x]
def sightRows (l : List Sight) : List (List DV) := l.map Sight.row
def skyRows (l : List Sky) : List (List DV) := l.map Sky.row
theorem hourRows_len (l : List Hour) : (hourRows l).length = l.length := by simp [hourRows]
theorem scenRows_len (l : List (List Hour)) : (scenRows l).length = l.length := by simp [scenRows]
theorem intRows_len (l : List Int) : (intRows l).length = l.length := by simp [intRows]
theorem sightRows_len (l : List Sight) : (sightRows l).length = l.length := by simp [sightRows]
theorem skyRows_len (l : List Sky) : (skyRows l).length = l.length := by simp [skyRows]
theorem hourRows_at {l : List Hour} {i : Nat} {x : Hour} (h : l[i]? = some x) : (hourRows l)[i]? = some x.row := by simp [hourRows, h]
theorem scenRows_at {l : List (List Hour)} {i : Nat} {x : List Hour} (h : l[i]? = some x) : (scenRows l)[i]? = some [.sl (hourRows x)] := by simp [scenRows, h]
theorem intRows_at {l : List Int} {i : Nat} {x : Int} (h : l[i]? = some x) : (intRows l)[i]? = some [.i x] := by simp [intRows, h]
theorem sightRows_at {l : List Sight} {i : Nat} {x : Sight} (h : l[i]? = some x) : (sightRows l)[i]? = some x.row := by simp [sightRows, h]
theorem hourRows_head (l : List Hour) : headIs 6 (hourRows l) = true := by cases l <;> rfl
theorem scenRows_head (l : List (List Hour)) : headIs 1 (scenRows l) = true := by cases l <;> rfl
theorem intRows_head (l : List Int) : headIs 1 (intRows l) = true := by cases l <;> rfl
theorem sightRows_head (l : List Sight) : headIs 4 (sightRows l) = true := by cases l <;> rfl
theorem skyRows_head (l : List Sky) : headIs 3 (skyRows l) = true := by cases l <;> rfl
attribute [go_sem] hourRows_len scenRows_len intRows_len sightRows_len skyRows_len hourRows_head scenRows_head intRows_head sightRows_head skyRows_head
theorem rowsFlat_map {α : Type} {f : α → List DV} (h : ∀ x, ∀ d ∈ f x, d.flat = true) (l : List α) : rowsFlat (l.map f) := by
  intro r hr d hd
  obtain ⟨x, _, rfl⟩ := List.mem_map.1 hr
  exact h x d hd
theorem rowsFlat_int (l : List Int) : rowsFlat (intRows l) := rowsFlat_map (by intro x d hd; simp at hd; subst hd; rfl) l
theorem rowsFlat_hour (l : List Hour) : rowsFlat (hourRows l) := rowsFlat_map (by intro x d hd; simp [Hour.row] at hd; rcases hd with rfl | rfl | rfl | rfl | rfl | rfl <;> rfl) l
theorem rowsFlat_sight (l : List Sight) : rowsFlat (sightRows l) := rowsFlat_map (by intro x d hd; simp [Sight.row] at hd; rcases hd with rfl | rfl | rfl | rfl <;> rfl) l
theorem rowsFlat_sky (l : List Sky) : rowsFlat (skyRows l) := rowsFlat_map (by intro x d hd; simp [Sky.row] at hd; rcases hd with rfl | rfl | rfl <;> rfl) l
abbrev wr (x : Int) : Int := IntKind.i64.wrap x
theorem wr_small {x : Int} (h : -(2 ^ 63) ≤ x ∧ x < 2 ^ 63) : IntKind.i64.wrap x = x := by
  rw [IntKind.wrap_i64]; omega
theorem foldl_take_succ {α β : Type} (f : β → α → β) (b : β) (l : List α) (i : Nat) (x : α) (h : l[i]? = some x) : (l.take (i + 1)).foldl f b = f ((l.take i).foldl f b) x := by
  rw [List.take_add_one, h]; simp
theorem drop_get {α : Type} {l : List α} {i : Nat} {x : α} (h : l[i]? = some x) : l.drop i = x :: l.drop (i + 1) := by
  obtain ⟨hlt, rfl⟩ := List.getElem?_eq_some_iff.1 h
  exact List.drop_eq_getElem_cons hlt
def idxFrom {α : Type} (q : α → Bool) : List α → Nat → Int
  | [], _ => -1
  | x :: xs, i => if q x then (i : Int) else idxFrom q xs (i + 1)
theorem idxFrom_nonneg {α : Type} (q : α → Bool) : ∀ (l : List α) (i : Nat), decide (idxFrom q l i ≥ 0) = l.any q
  | [], i => by simp [idxFrom]
  | x :: xs, i => by
    simp only [idxFrom, List.any_cons]
    by_cases h : q x
    · simp [h]
    · simp [h, ← idxFrom_nonneg q xs (i + 1)]
theorem any_not {α : Type} (l : List α) (q : α → Bool) : (!(l.any fun s => !q s)) = l.all q := by
  induction l with
  | nil => rfl
  | cons x xs ih => simp only [List.any_cons, List.all_cons, ← ih]; cases q x <;> simp
theorem any_of_get {α : Type} {l : List α} {q : α → Bool} {i : Nat} {x : α} (h : l[i]? = some x) (hq : q x = true) : l.any q = true :=
  List.any_eq_true.2 ⟨x, List.mem_of_getElem? h, hq⟩
theorem any_take_succ {α : Type} {l : List α} {q : α → Bool} {i : Nat} {x : α} (h : l[i]? = some x) (h0 : (l.take i).any q = false) (hq : q x = false) : (l.take (i + 1)).any q = false := by
  rw [List.take_add_one, h]; simp [h0, hq]
theorem all_take_succ {α : Type} {l : List α} {q : α → Bool} {i : Nat} {x : α} (h : l[i]? = some x) (h0 : (l.take i).all q = true) (hq : q x = true) : (l.take (i + 1)).all q = true := by
  rw [List.take_add_one, h]; simp [h0, hq]
theorem all_of_get {α : Type} {l : List α} {q : α → Bool} {i : Nat} {x : α} (h : l[i]? = some x) (hq : q x = false) : l.all q = false := by
  cases hc : l.all q with
  | false => rfl
  | true => rw [List.all_eq_true] at hc; have := hc x (List.mem_of_getElem? h); rw [hq] at this; cases this
theorem reify_caps (m : List (Option Blk)) (x : AV) (d : DV) (caps : List DV) (h : reify m deep x = some d) : allSome ((x :: caps.map AV.d).map (reify m deep)) = some (d :: caps) := by
  have : ∀ l : List DV, allSome ((l.map AV.d).map (reify m deep)) = some l := by
    intro l
    induction l with
    | nil => rfl
    | cons a l ih =>
      simp only [List.map_cons]
      rw [show reify m deep (AV.d a) = some a from rfl]
      simp only [allSome, ih, Option.map_some]
  simp only [List.map_cons, h, allSome]
  rw [this caps]
  rfl
def getI (l : List Int) (i : Int) : Int := l.getD i.toNat 0
theorem intRows_get {l : List Int} {i : Int} (h : 0 ≤ i) (hl : i.toNat < l.length) : (intRows l)[i.toNat]? = some [.i (getI l i)] := by
  refine intRows_at ?_
  unfold getI
  rw [List.getD, List.getElem?_eq_getElem hl]
  rfl
end Go.Ab
namespace Go.Ab
open Go.RowKit Go.Proofs
set_option maxHeartbeats 4000000
set_option maxRecDepth 20000
attribute [local irreducible] WalkL Walk
def withinB (n lo hi : Int) : Bool := decide (lo ≤ n) && decide (n ≤ hi)
def orderedB (s : Span) (lo hi : Int) : Bool := decide (lo ≤ s.lo) && (decide (s.lo ≤ s.hi) && decide (s.hi ≤ hi))
theorem within_iff {x lo hi : Int} : withinB x lo hi = true ↔ lo ≤ x ∧ x ≤ hi := by simp [withinB]
theorem ordered_iff {s : Span} {lo hi : Int} : orderedB s lo hi = true ↔ lo ≤ s.lo ∧ s.lo ≤ s.hi ∧ s.hi ≤ hi := by simp [orderedB]
theorem f45 (n lo hi : Int) : Fn Try.prog 45 [.i n, .i lo, .i hi] (.bool (withinB n lo hi)) := by
  refine fn_walk 15 Try.call45 Try.func45 rfl (by decide) fun J => ?_
  simp (maxSteps := 4000000) only [go_sem, St.start, Try.ntmps45, Try.results45]
  by_cases h : lo ≤ n
  · repeat (first | refine walkL_seq ?_ | refine walkL_skip ?_ | refine walkL_block ?_ | (refine walkL_region fun K hK => ?_; simp (maxSteps := 4000000) only [go_sem, h]; refine hK _ ?_; clear hK K) | refine walkL_nil ?_ | refine walkL_ret ?_ | refine walkL_exit ?_ | refine blockA_here ?_ | refine blockA_other rfl ?_ | refine blockA_ret ?_ | refine blockA_normal ?_ | refine thenA_ret ?_ | refine thenA_exit ?_ | refine thenA_normal ?_)
    simp (maxSteps := 4000000) only [go_sem, withinB, h]
  · repeat (first | refine walkL_seq ?_ | refine walkL_skip ?_ | refine walkL_block ?_ | (refine walkL_region fun K hK => ?_; simp (maxSteps := 4000000) only [go_sem, h]; refine hK _ ?_; clear hK K) | refine walkL_nil ?_ | refine walkL_ret ?_ | refine walkL_exit ?_ | refine blockA_here ?_ | refine blockA_other rfl ?_ | refine blockA_ret ?_ | refine blockA_normal ?_ | refine thenA_ret ?_ | refine thenA_exit ?_ | refine thenA_normal ?_)
    simp (maxSteps := 4000000) only [go_sem, withinB, h]
theorem f88 (s : Span) (lo hi : Int) : Fn Try.prog 88 [.agg s.row, .i lo, .i hi] (.bool (orderedB s lo hi)) := by
  refine fn_walk 24 Try.call88 Try.func88 rfl (by decide) fun J => ?_
  simp (maxSteps := 4000000) only [go_sem, St.start, Try.ntmps88, Try.results88, Span.row]
  by_cases h : lo ≤ s.lo <;> by_cases h2 : s.lo ≤ s.hi
  all_goals
    repeat (first | refine walkL_seq ?_ | refine walkL_skip ?_ | refine walkL_block ?_ | (refine walkL_region fun K hK => ?_; simp (maxSteps := 4000000) only [go_sem, h, h2]; refine hK _ ?_; clear hK K) | refine walkL_nil ?_ | refine walkL_ret ?_ | refine walkL_exit ?_ | refine blockA_here ?_ | refine blockA_other rfl ?_ | refine blockA_ret ?_ | refine blockA_normal ?_ | refine thenA_ret ?_ | refine thenA_exit ?_ | refine thenA_normal ?_)
    simp (maxSteps := 4000000) only [go_sem, orderedB, h, h2]
def hourB (h : Hour) : Bool := orderedB h.wind 0 200 && (orderedB h.rain 0 100 && orderedB h.temp (-50) 50)
theorem f83 (h : Hour) : Fn Try.prog 83 [.agg h.row] (.bool (hourB h)) := by
  have h1 := f88 h.wind 0 200
  have h2 := f88 h.rain 0 100
  have h3 := f88 h.temp (-50) 50
  rw [Span.row] at h1 h2 h3
  obtain ⟨b1, e1⟩ : ∃ b, b = orderedB h.wind 0 200 := ⟨_, rfl⟩
  obtain ⟨b2, e2⟩ : ∃ b, b = orderedB h.rain 0 100 := ⟨_, rfl⟩
  obtain ⟨b3, e3⟩ : ∃ b, b = orderedB h.temp (-50) 50 := ⟨_, rfl⟩
  rw [hourB, ← e1, ← e2, ← e3]
  rw [← e1] at h1
  rw [← e2] at h2
  rw [← e3] at h3
  refine fn_walk 16 Try.call83 Try.func83 rfl (by decide) fun J => ?_
  simp (maxSteps := 4000000) only [go_sem, St.start, Try.ntmps83, Try.results83, Hour.row]
  cases b1 <;> cases b2
  all_goals
    repeat (first | refine walkL_seq ?_ | refine walkL_skip ?_ | refine walkL_block ?_ | (refine walkL_region fun K hK => ?_; simp (maxSteps := 4000000) only [go_sem]; (repeat (first | (refine ⟨_, .lent (hf := h1) (hd := rfl) (hr := rfl), ?_⟩; simp (maxSteps := 4000000) only [go_sem]) | (refine ⟨_, .lent (hf := h2) (hd := rfl) (hr := rfl), ?_⟩; simp (maxSteps := 4000000) only [go_sem]) | (refine ⟨_, .lent (hf := h3) (hd := rfl) (hr := rfl), ?_⟩; simp (maxSteps := 4000000) only [go_sem]) | (refine ⟨_, .given (hf := h1) (hd := rfl) (ha := rfl), ?_⟩; simp (maxSteps := 4000000) only [go_sem]) | (refine ⟨_, .given (hf := h2) (hd := rfl) (ha := rfl), ?_⟩; simp (maxSteps := 4000000) only [go_sem]) | (refine ⟨_, .given (hf := h3) (hd := rfl) (ha := rfl), ?_⟩; simp (maxSteps := 4000000) only [go_sem]))); refine hK _ ?_; clear hK K) | refine walkL_nil ?_ | refine walkL_ret ?_ | refine walkL_exit ?_ | refine blockA_here ?_ | refine blockA_other rfl ?_ | refine blockA_ret ?_ | refine blockA_normal ?_ | refine thenA_ret ?_ | refine thenA_exit ?_ | refine thenA_normal ?_)
    simp (maxSteps := 4000000) only [go_sem]
theorem f87 (n : Int) : Fn Try.prog 87 [.i n] (.agg [.i n, .i n]) := by
  refine fn_walk 6 Try.call87 Try.func87 rfl (by decide) fun J => ?_
  simp (maxSteps := 4000000) only [go_sem, St.start, Try.ntmps87, Try.results87]
  repeat (first | refine walkL_seq ?_ | refine walkL_skip ?_ | refine walkL_block ?_ | (refine walkL_region fun K hK => ?_; simp (maxSteps := 4000000) only [go_sem]; refine hK _ ?_; clear hK K) | refine walkL_nil ?_ | refine walkL_ret ?_ | refine walkL_exit ?_ | refine blockA_here ?_ | refine blockA_other rfl ?_ | refine blockA_ret ?_ | refine blockA_normal ?_ | refine thenA_ret ?_ | refine thenA_exit ?_ | refine thenA_normal ?_)
  simp (maxSteps := 4000000) only [go_sem]
def pointH (s : Sky) : Hour := ⟨⟨s.wind, s.wind⟩, ⟨s.rain, s.rain⟩, ⟨s.temp, s.temp⟩⟩
theorem f69 (s : Sky) : Fn Try.prog 69 [.agg s.row] (.agg (pointH s).row) := by
  refine fn_walk 17 Try.call69 Try.func69 rfl (by decide) fun J => ?_
  simp (maxSteps := 4000000) only [go_sem, St.start, Try.ntmps69, Try.results69, Sky.row]
  repeat (first | refine walkL_seq ?_ | refine walkL_skip ?_ | refine walkL_block ?_ | (refine walkL_region fun K hK => ?_; simp (maxSteps := 4000000) only [go_sem]; refine hK _ ?_; clear hK K) | refine walkL_nil ?_ | refine walkL_ret ?_ | refine walkL_exit ?_ | refine blockA_here ?_ | refine blockA_other rfl ?_ | refine blockA_ret ?_ | refine blockA_normal ?_ | refine thenA_ret ?_ | refine thenA_exit ?_ | refine thenA_normal ?_)
  refine walkL_drawn (by kernel_rfl) (by kernel_rfl) fun K hK => ?_
  simp (maxSteps := 4000000) only [go_sem]
  refine ⟨_, .fn (hf := f87 s.wind) (hd := rfl) (hr := .inl rfl), ?_⟩
  simp (maxSteps := 4000000) only [go_sem]
  refine ⟨_, .fn (hf := f87 s.rain) (hd := rfl) (hr := .inl rfl), ?_⟩
  simp (maxSteps := 4000000) only [go_sem]
  refine ⟨_, .fn (hf := f87 s.temp) (hd := rfl) (hr := .inl rfl), ?_⟩
  simp (maxSteps := 4000000) only [go_sem]
  refine ⟨by kernel_rfl, hK _ ?_⟩
  clear hK K
  repeat (first | refine walkL_seq ?_ | refine walkL_skip ?_ | refine walkL_block ?_ | (refine walkL_region fun K hK => ?_; simp (maxSteps := 4000000) only [go_sem]; refine hK _ ?_; clear hK K) | refine walkL_nil ?_ | refine walkL_ret ?_ | refine walkL_exit ?_ | refine blockA_here ?_ | refine blockA_other rfl ?_ | refine blockA_ret ?_ | refine blockA_normal ?_ | refine thenA_ret ?_ | refine thenA_exit ?_ | refine thenA_normal ?_)
  simp (maxSteps := 4000000) only [go_sem, pointH, Hour.row]
def insideB (s : Sky) (h : Hour) : Bool := withinB s.wind h.wind.lo h.wind.hi && (withinB s.rain h.rain.lo h.rain.hi && withinB s.temp h.temp.lo h.temp.hi)
theorem f68 (s : Sky) (h : Hour) : Fn Try.prog 68 [.agg s.row, .agg h.row] (.bool (insideB s h)) := by
  have h1 := f45 s.wind h.wind.lo h.wind.hi
  have h2 := f45 s.rain h.rain.lo h.rain.hi
  have h3 := f45 s.temp h.temp.lo h.temp.hi
  obtain ⟨b1, e1⟩ : ∃ b, b = withinB s.wind h.wind.lo h.wind.hi := ⟨_, rfl⟩
  obtain ⟨b2, e2⟩ : ∃ b, b = withinB s.rain h.rain.lo h.rain.hi := ⟨_, rfl⟩
  obtain ⟨b3, e3⟩ : ∃ b, b = withinB s.temp h.temp.lo h.temp.hi := ⟨_, rfl⟩
  rw [insideB, ← e1, ← e2, ← e3]
  rw [← e1] at h1
  rw [← e2] at h2
  rw [← e3] at h3
  refine fn_walk 36 Try.call68 Try.func68 rfl (by decide) fun J => ?_
  simp (maxSteps := 4000000) only [go_sem, St.start, Try.ntmps68, Try.results68, Hour.row, Sky.row]
  cases b1 <;> cases b2
  all_goals
    repeat (first | refine walkL_seq ?_ | refine walkL_skip ?_ | refine walkL_block ?_ | (refine walkL_region fun K hK => ?_; simp (maxSteps := 4000000) only [go_sem]; (repeat (first | (refine ⟨_, .lent (hf := h1) (hd := rfl) (hr := rfl), ?_⟩; simp (maxSteps := 4000000) only [go_sem]) | (refine ⟨_, .lent (hf := h2) (hd := rfl) (hr := rfl), ?_⟩; simp (maxSteps := 4000000) only [go_sem]) | (refine ⟨_, .lent (hf := h3) (hd := rfl) (hr := rfl), ?_⟩; simp (maxSteps := 4000000) only [go_sem]) | (refine ⟨_, .given (hf := h1) (hd := rfl) (ha := rfl), ?_⟩; simp (maxSteps := 4000000) only [go_sem]) | (refine ⟨_, .given (hf := h2) (hd := rfl) (ha := rfl), ?_⟩; simp (maxSteps := 4000000) only [go_sem]) | (refine ⟨_, .given (hf := h3) (hd := rfl) (ha := rfl), ?_⟩; simp (maxSteps := 4000000) only [go_sem]))); refine hK _ ?_; clear hK K) | refine walkL_nil ?_ | refine walkL_ret ?_ | refine walkL_exit ?_ | refine blockA_here ?_ | refine blockA_other rfl ?_ | refine blockA_ret ?_ | refine blockA_normal ?_ | refine thenA_ret ?_ | refine thenA_exit ?_ | refine thenA_normal ?_)
    simp (maxSteps := 4000000) only [go_sem]
theorem f99 (xs : List Sight) (g : Nat) (caps : List DV) (q : Sight → Bool) (hq : ∀ s ∈ xs, Fn Try.prog g (.agg s.row :: caps) (.bool (q s))) (hl : xs.length < 2 ^ 62) : Fn Try.prog 99 [.sl (sightRows xs), .fn g caps] (.i (idxFrom q xs 0)) := by
  refine fn_walk 19 Try.call99 Try.func99 rfl (by decide) fun J => ?_
  simp (maxSteps := 4000000) only [go_sem, St.start, Try.ntmps99, Try.results99]
  repeat (first | refine walkL_seq ?_ | refine walkL_skip ?_ | refine walkL_block ?_ | (refine walkL_region fun K hK => ?_; simp (maxSteps := 4000000) only [go_sem]; refine hK _ ?_; clear hK K) | refine walkL_nil ?_ | refine walkL_ret ?_ | refine walkL_exit ?_ | refine blockA_here ?_ | refine blockA_other rfl ?_ | refine blockA_ret ?_ | refine blockA_normal ?_ | refine thenA_ret ?_ | refine thenA_exit ?_ | refine thenA_normal ?_)
  refine walkL_loopS (fun (i : Nat) => [(8, .d (.i i))]) (fun _ => []) (fun i => i ≤ xs.length ∧ idxFrom q xs 0 = idxFrom q (xs.drop i) i) (fun i => xs.length - i) 0 ?_ ⟨Nat.zero_le _, rfl⟩ ?_
  · simp (maxSteps := 4000000) only [go_sem]
    refine weak_of [] ?_ ?_ rfl rfl <;> simp [lessT, lessM, lessB, AV.less]
  · intro i ⟨hi, hq0⟩
    simp (maxSteps := 4000000) only [go_sem]
    repeat (first | refine walkL_seq ?_ | refine walkL_skip ?_ | refine walkL_block ?_ | (refine walkL_region fun K hK => ?_; simp (maxSteps := 4000000) only [go_sem]; refine hK _ ?_; clear hK K) | refine walkL_nil ?_ | refine walkL_ret ?_ | refine walkL_exit ?_ | refine blockA_here ?_ | refine blockA_other rfl ?_ | refine blockA_ret ?_ | refine blockA_normal ?_ | refine thenA_ret ?_ | refine thenA_exit ?_ | refine thenA_normal ?_)
    refine walkL_cond rfl (fun hb => ?_) (fun hb => ?_)
    · have hlt : i < xs.length := by simpa using hb
      have hw : IntKind.i64.wrap ((i : Int) + 1) = ((i + 1 : Nat) : Int) := by rw [wr_small (by omega)]; simp
      obtain ⟨s, hs⟩ : ∃ s, xs[i]? = some s := ⟨_, List.getElem?_eq_getElem hlt⟩
      rw [drop_get hs, idxFrom] at hq0
      repeat (first | refine walkL_seq ?_ | refine walkL_skip ?_ | refine walkL_block ?_ | (refine walkL_region fun K hK => ?_; simp (maxSteps := 4000000) only [go_sem]; refine hK _ ?_; clear hK K) | refine walkL_nil ?_ | refine walkL_ret ?_ | refine walkL_exit ?_ | refine blockA_here ?_ | refine blockA_other rfl ?_ | refine blockA_ret ?_ | refine blockA_normal ?_ | refine thenA_ret ?_ | refine thenA_exit ?_ | refine thenA_normal ?_)
      refine walkL_region fun K hK => ?_
      simp (maxSteps := 4000000) only [go_sem, hs, List.getElem?_map, sightRows_at hs, Sight.row, hw]
      refine ⟨_, .lent (hf := hq s (List.mem_of_getElem? hs)) (hd := reify_caps _ _ _ _ rfl) (hr := rfl), ?_⟩
      simp (maxSteps := 4000000) only [go_sem]
      refine hK _ ?_
      clear hK K
      refine walkL_cond rfl (fun hc => ?_) (fun hc => ?_)
      · rw [hc, if_pos rfl] at hq0
        repeat (first | refine walkL_seq ?_ | refine walkL_skip ?_ | refine walkL_block ?_ | (refine walkL_region fun K hK => ?_; simp (maxSteps := 4000000) only [go_sem]; refine hK _ ?_; clear hK K) | refine walkL_nil ?_ | refine walkL_ret ?_ | refine walkL_exit ?_ | refine blockA_here ?_ | refine blockA_other rfl ?_ | refine blockA_ret ?_ | refine blockA_normal ?_ | refine thenA_ret ?_ | refine thenA_exit ?_ | refine thenA_normal ?_)
        simp (maxSteps := 4000000) only [go_sem, hq0]
      · rw [hc] at hq0
        repeat (first | refine walkL_seq ?_ | refine walkL_skip ?_ | refine walkL_block ?_ | (refine walkL_region fun K hK => ?_; simp (maxSteps := 4000000) only [go_sem, hw]; refine hK _ ?_; clear hK K) | refine walkL_nil ?_ | refine walkL_ret ?_ | refine walkL_exit ?_ | refine blockA_here ?_ | refine blockA_other rfl ?_ | refine blockA_ret ?_ | refine blockA_normal ?_ | refine thenA_ret ?_ | refine thenA_exit ?_ | refine thenA_normal ?_)
        refine ⟨rfl, i + 1, ?_, ⟨hlt, hq0⟩, by omega⟩
        refine weak_of [] ?_ ?_ rfl rfl <;> simp [lessT, lessM, lessB, AV.less]
    · have he : i = xs.length := by (have : ¬ i < xs.length := by simpa using hb); omega
      subst he
      repeat (first | refine walkL_seq ?_ | refine walkL_skip ?_ | refine walkL_block ?_ | (refine walkL_region fun K hK => ?_; simp (maxSteps := 4000000) only [go_sem]; refine hK _ ?_; clear hK K) | refine walkL_nil ?_ | refine walkL_ret ?_ | refine walkL_exit ?_ | refine blockA_here ?_ | refine blockA_other rfl ?_ | refine blockA_ret ?_ | refine blockA_normal ?_ | refine thenA_ret ?_ | refine thenA_exit ?_ | refine thenA_normal ?_)
      simp (maxSteps := 4000000) only [go_sem, hq0, List.drop_length, idxFrom]
theorem f85 (xs : List Sight) (g : Nat) (caps : List DV) (q : Sight → Bool) (hq : ∀ s ∈ xs, Fn Try.prog g (.agg s.row :: caps) (.bool (q s))) (hl : xs.length < 2 ^ 62) : Fn Try.prog 85 [.sl (sightRows xs), .fn g caps] (.bool (xs.any q)) := by
  refine fn_walk 9 Try.call85 Try.func85 rfl (by decide) fun J => ?_
  simp (maxSteps := 4000000) only [go_sem, St.start, Try.ntmps85, Try.results85]
  repeat (first | refine walkL_seq ?_ | refine walkL_skip ?_ | refine walkL_block ?_ | (refine walkL_region fun K hK => ?_; simp (maxSteps := 4000000) only [go_sem]; (repeat (first | (refine ⟨_, .lent (hf := f99 xs g caps q hq hl) (hd := rfl) (hr := rfl), ?_⟩; simp (maxSteps := 4000000) only [go_sem]) | (refine ⟨_, .given (hf := f99 xs g caps q hq hl) (hd := rfl) (ha := rfl), ?_⟩; simp (maxSteps := 4000000) only [go_sem]))); refine hK _ ?_; clear hK K) | refine walkL_nil ?_ | refine walkL_ret ?_ | refine walkL_exit ?_ | refine blockA_here ?_ | refine blockA_other rfl ?_ | refine blockA_ret ?_ | refine blockA_normal ?_ | refine thenA_ret ?_ | refine thenA_exit ?_ | refine thenA_normal ?_)
  simp (maxSteps := 4000000) only [go_sem, idxFrom_nonneg]
theorem f86 (s : Sight) (g : Nat) (caps : List DV) (b : Bool) (hq : Fn Try.prog g (.agg s.row :: caps) (.bool b)) : Fn Try.prog 86 [.agg s.row, .ptr [.fn g caps] 0] (.bool (!b)) := by
  refine fn_walk 8 Try.call86 Try.func86 rfl (by decide) fun J => ?_
  simp (maxSteps := 4000000) only [go_sem, St.start, Try.ntmps86, Try.results86, Sight.row]
  repeat (first | refine walkL_seq ?_ | refine walkL_skip ?_ | refine walkL_block ?_ | (refine walkL_region fun K hK => ?_; simp (maxSteps := 4000000) only [go_sem]; refine hK _ ?_; clear hK K) | refine walkL_nil ?_ | refine walkL_ret ?_ | refine walkL_exit ?_ | refine blockA_here ?_ | refine blockA_other rfl ?_ | refine blockA_ret ?_ | refine blockA_normal ?_ | refine thenA_ret ?_ | refine thenA_exit ?_ | refine thenA_normal ?_)
  refine walkL_region fun K hK => ?_
  simp (maxSteps := 4000000) only [go_sem]
  refine ⟨_, .lent (hf := hq) (hd := reify_caps _ _ _ _ rfl) (hr := rfl), ?_⟩
  simp (maxSteps := 4000000) only [go_sem]
  refine hK _ ?_
  clear hK K
  repeat (first | refine walkL_seq ?_ | refine walkL_skip ?_ | refine walkL_block ?_ | (refine walkL_region fun K hK => ?_; simp (maxSteps := 4000000) only [go_sem]; refine hK _ ?_; clear hK K) | refine walkL_nil ?_ | refine walkL_ret ?_ | refine walkL_exit ?_ | refine blockA_here ?_ | refine blockA_other rfl ?_ | refine blockA_ret ?_ | refine blockA_normal ?_ | refine thenA_ret ?_ | refine thenA_exit ?_ | refine thenA_normal ?_)
  simp (maxSteps := 4000000) only [go_sem]
theorem f66 (xs : List Sight) (g : Nat) (caps : List DV) (q : Sight → Bool) (hq : ∀ s ∈ xs, Fn Try.prog g (.agg s.row :: caps) (.bool (q s))) (hl : xs.length < 2 ^ 62) : Fn Try.prog 66 [.sl (sightRows xs), .fn g caps] (.bool (xs.all q)) := by
  have h := f85 xs 86 [.ptr [.fn g caps] 0] (fun s => !q s) (fun s hs => f86 s g caps (q s) (hq s hs)) hl
  refine fn_walk 9 Try.call66 Try.func66 rfl (by decide) fun J => ?_
  simp (maxSteps := 4000000) only [go_sem, St.start, Try.ntmps66, Try.results66]
  repeat (first | refine walkL_seq ?_ | refine walkL_skip ?_ | refine walkL_block ?_ | (refine walkL_region fun K hK => ?_; simp (maxSteps := 4000000) only [go_sem]; (repeat (first | (refine ⟨_, .lent (hf := h) (hd := rfl) (hr := rfl), ?_⟩; simp (maxSteps := 4000000) only [go_sem]) | (refine ⟨_, .given (hf := h) (hd := rfl) (ha := rfl), ?_⟩; simp (maxSteps := 4000000) only [go_sem]))); refine hK _ ?_; clear hK K) | refine walkL_nil ?_ | refine walkL_ret ?_ | refine walkL_exit ?_ | refine blockA_here ?_ | refine blockA_other rfl ?_ | refine blockA_ret ?_ | refine blockA_normal ?_ | refine thenA_ret ?_ | refine thenA_exit ?_ | refine thenA_normal ?_)
  simp (maxSteps := 4000000) only [go_sem, any_not]
theorem f100 (xs : List Hour) (g : Nat) (caps : List DV) (q : Hour → Bool) (hq : ∀ s ∈ xs, Fn Try.prog g (.agg s.row :: caps) (.bool (q s))) (hl : xs.length < 2 ^ 62) : Fn Try.prog 100 [.sl (hourRows xs), .fn g caps] (.i (idxFrom q xs 0)) := by
  refine fn_walk 19 Try.call100 Try.func100 rfl (by decide) fun J => ?_
  simp (maxSteps := 4000000) only [go_sem, St.start, Try.ntmps100, Try.results100]
  repeat (first | refine walkL_seq ?_ | refine walkL_skip ?_ | refine walkL_block ?_ | (refine walkL_region fun K hK => ?_; simp (maxSteps := 4000000) only [go_sem]; refine hK _ ?_; clear hK K) | refine walkL_nil ?_ | refine walkL_ret ?_ | refine walkL_exit ?_ | refine blockA_here ?_ | refine blockA_other rfl ?_ | refine blockA_ret ?_ | refine blockA_normal ?_ | refine thenA_ret ?_ | refine thenA_exit ?_ | refine thenA_normal ?_)
  refine walkL_loopS (fun (i : Nat) => [(8, .d (.i i))]) (fun _ => []) (fun i => i ≤ xs.length ∧ idxFrom q xs 0 = idxFrom q (xs.drop i) i) (fun i => xs.length - i) 0 ?_ ⟨Nat.zero_le _, rfl⟩ ?_
  · simp (maxSteps := 4000000) only [go_sem]
    refine weak_of [] ?_ ?_ rfl rfl <;> simp [lessT, lessM, lessB, AV.less]
  · intro i ⟨hi, hq0⟩
    simp (maxSteps := 4000000) only [go_sem]
    repeat (first | refine walkL_seq ?_ | refine walkL_skip ?_ | refine walkL_block ?_ | (refine walkL_region fun K hK => ?_; simp (maxSteps := 4000000) only [go_sem]; refine hK _ ?_; clear hK K) | refine walkL_nil ?_ | refine walkL_ret ?_ | refine walkL_exit ?_ | refine blockA_here ?_ | refine blockA_other rfl ?_ | refine blockA_ret ?_ | refine blockA_normal ?_ | refine thenA_ret ?_ | refine thenA_exit ?_ | refine thenA_normal ?_)
    refine walkL_cond rfl (fun hb => ?_) (fun hb => ?_)
    · have hlt : i < xs.length := by simpa using hb
      have hw : IntKind.i64.wrap ((i : Int) + 1) = ((i + 1 : Nat) : Int) := by rw [wr_small (by omega)]; simp
      obtain ⟨s, hs⟩ : ∃ s, xs[i]? = some s := ⟨_, List.getElem?_eq_getElem hlt⟩
      rw [drop_get hs, idxFrom] at hq0
      repeat (first | refine walkL_seq ?_ | refine walkL_skip ?_ | refine walkL_block ?_ | (refine walkL_region fun K hK => ?_; simp (maxSteps := 4000000) only [go_sem]; refine hK _ ?_; clear hK K) | refine walkL_nil ?_ | refine walkL_ret ?_ | refine walkL_exit ?_ | refine blockA_here ?_ | refine blockA_other rfl ?_ | refine blockA_ret ?_ | refine blockA_normal ?_ | refine thenA_ret ?_ | refine thenA_exit ?_ | refine thenA_normal ?_)
      refine walkL_region fun K hK => ?_
      simp (maxSteps := 4000000) only [go_sem, hs, List.getElem?_map, hourRows_at hs, Hour.row, hw]
      refine ⟨_, .lent (hf := hq s (List.mem_of_getElem? hs)) (hd := reify_caps _ _ _ _ rfl) (hr := rfl), ?_⟩
      simp (maxSteps := 4000000) only [go_sem]
      refine hK _ ?_
      clear hK K
      refine walkL_cond rfl (fun hc => ?_) (fun hc => ?_)
      · rw [hc, if_pos rfl] at hq0
        repeat (first | refine walkL_seq ?_ | refine walkL_skip ?_ | refine walkL_block ?_ | (refine walkL_region fun K hK => ?_; simp (maxSteps := 4000000) only [go_sem]; refine hK _ ?_; clear hK K) | refine walkL_nil ?_ | refine walkL_ret ?_ | refine walkL_exit ?_ | refine blockA_here ?_ | refine blockA_other rfl ?_ | refine blockA_ret ?_ | refine blockA_normal ?_ | refine thenA_ret ?_ | refine thenA_exit ?_ | refine thenA_normal ?_)
        simp (maxSteps := 4000000) only [go_sem, hq0]
      · rw [hc] at hq0
        repeat (first | refine walkL_seq ?_ | refine walkL_skip ?_ | refine walkL_block ?_ | (refine walkL_region fun K hK => ?_; simp (maxSteps := 4000000) only [go_sem, hw]; refine hK _ ?_; clear hK K) | refine walkL_nil ?_ | refine walkL_ret ?_ | refine walkL_exit ?_ | refine blockA_here ?_ | refine blockA_other rfl ?_ | refine blockA_ret ?_ | refine blockA_normal ?_ | refine thenA_ret ?_ | refine thenA_exit ?_ | refine thenA_normal ?_)
        refine ⟨rfl, i + 1, ?_, ⟨hlt, hq0⟩, by omega⟩
        refine weak_of [] ?_ ?_ rfl rfl <;> simp [lessT, lessM, lessB, AV.less]
    · have he : i = xs.length := by (have : ¬ i < xs.length := by simpa using hb); omega
      subst he
      repeat (first | refine walkL_seq ?_ | refine walkL_skip ?_ | refine walkL_block ?_ | (refine walkL_region fun K hK => ?_; simp (maxSteps := 4000000) only [go_sem]; refine hK _ ?_; clear hK K) | refine walkL_nil ?_ | refine walkL_ret ?_ | refine walkL_exit ?_ | refine blockA_here ?_ | refine blockA_other rfl ?_ | refine blockA_ret ?_ | refine blockA_normal ?_ | refine thenA_ret ?_ | refine thenA_exit ?_ | refine thenA_normal ?_)
      simp (maxSteps := 4000000) only [go_sem, hq0, List.drop_length, idxFrom]
theorem f95 (xs : List Hour) (g : Nat) (caps : List DV) (q : Hour → Bool) (hq : ∀ s ∈ xs, Fn Try.prog g (.agg s.row :: caps) (.bool (q s))) (hl : xs.length < 2 ^ 62) : Fn Try.prog 95 [.sl (hourRows xs), .fn g caps] (.bool (xs.any q)) := by
  refine fn_walk 9 Try.call95 Try.func95 rfl (by decide) fun J => ?_
  simp (maxSteps := 4000000) only [go_sem, St.start, Try.ntmps95, Try.results95]
  repeat (first | refine walkL_seq ?_ | refine walkL_skip ?_ | refine walkL_block ?_ | (refine walkL_region fun K hK => ?_; simp (maxSteps := 4000000) only [go_sem]; (repeat (first | (refine ⟨_, .lent (hf := f100 xs g caps q hq hl) (hd := rfl) (hr := rfl), ?_⟩; simp (maxSteps := 4000000) only [go_sem]) | (refine ⟨_, .given (hf := f100 xs g caps q hq hl) (hd := rfl) (ha := rfl), ?_⟩; simp (maxSteps := 4000000) only [go_sem]))); refine hK _ ?_; clear hK K) | refine walkL_nil ?_ | refine walkL_ret ?_ | refine walkL_exit ?_ | refine blockA_here ?_ | refine blockA_other rfl ?_ | refine blockA_ret ?_ | refine blockA_normal ?_ | refine thenA_ret ?_ | refine thenA_exit ?_ | refine thenA_normal ?_)
  simp (maxSteps := 4000000) only [go_sem, idxFrom_nonneg]
theorem f96 (s : Hour) (g : Nat) (caps : List DV) (b : Bool) (hq : Fn Try.prog g (.agg s.row :: caps) (.bool b)) : Fn Try.prog 96 [.agg s.row, .ptr [.fn g caps] 0] (.bool (!b)) := by
  refine fn_walk 8 Try.call96 Try.func96 rfl (by decide) fun J => ?_
  simp (maxSteps := 4000000) only [go_sem, St.start, Try.ntmps96, Try.results96, Hour.row]
  repeat (first | refine walkL_seq ?_ | refine walkL_skip ?_ | refine walkL_block ?_ | (refine walkL_region fun K hK => ?_; simp (maxSteps := 4000000) only [go_sem]; refine hK _ ?_; clear hK K) | refine walkL_nil ?_ | refine walkL_ret ?_ | refine walkL_exit ?_ | refine blockA_here ?_ | refine blockA_other rfl ?_ | refine blockA_ret ?_ | refine blockA_normal ?_ | refine thenA_ret ?_ | refine thenA_exit ?_ | refine thenA_normal ?_)
  refine walkL_region fun K hK => ?_
  simp (maxSteps := 4000000) only [go_sem]
  refine ⟨_, .lent (hf := hq) (hd := reify_caps _ _ _ _ rfl) (hr := rfl), ?_⟩
  simp (maxSteps := 4000000) only [go_sem]
  refine hK _ ?_
  clear hK K
  repeat (first | refine walkL_seq ?_ | refine walkL_skip ?_ | refine walkL_block ?_ | (refine walkL_region fun K hK => ?_; simp (maxSteps := 4000000) only [go_sem]; refine hK _ ?_; clear hK K) | refine walkL_nil ?_ | refine walkL_ret ?_ | refine walkL_exit ?_ | refine blockA_here ?_ | refine blockA_other rfl ?_ | refine blockA_ret ?_ | refine blockA_normal ?_ | refine thenA_ret ?_ | refine thenA_exit ?_ | refine thenA_normal ?_)
  simp (maxSteps := 4000000) only [go_sem]
theorem f82 (xs : List Hour) (g : Nat) (caps : List DV) (q : Hour → Bool) (hq : ∀ s ∈ xs, Fn Try.prog g (.agg s.row :: caps) (.bool (q s))) (hl : xs.length < 2 ^ 62) : Fn Try.prog 82 [.sl (hourRows xs), .fn g caps] (.bool (xs.all q)) := by
  have h := f95 xs 96 [.ptr [.fn g caps] 0] (fun s => !q s) (fun s hs => f96 s g caps (q s) (hq s hs)) hl
  refine fn_walk 9 Try.call82 Try.func82 rfl (by decide) fun J => ?_
  simp (maxSteps := 4000000) only [go_sem, St.start, Try.ntmps82, Try.results82]
  repeat (first | refine walkL_seq ?_ | refine walkL_skip ?_ | refine walkL_block ?_ | (refine walkL_region fun K hK => ?_; simp (maxSteps := 4000000) only [go_sem]; (repeat (first | (refine ⟨_, .lent (hf := h) (hd := rfl) (hr := rfl), ?_⟩; simp (maxSteps := 4000000) only [go_sem]) | (refine ⟨_, .given (hf := h) (hd := rfl) (ha := rfl), ?_⟩; simp (maxSteps := 4000000) only [go_sem]))); refine hK _ ?_; clear hK K) | refine walkL_nil ?_ | refine walkL_ret ?_ | refine walkL_exit ?_ | refine blockA_here ?_ | refine blockA_other rfl ?_ | refine blockA_ret ?_ | refine blockA_normal ?_ | refine thenA_ret ?_ | refine thenA_exit ?_ | refine thenA_normal ?_)
  simp (maxSteps := 4000000) only [go_sem, any_not]
theorem f101 (xs : List (List Hour)) (g : Nat) (caps : List DV) (q : (List Hour) → Bool) (hq : ∀ s ∈ xs, Fn Try.prog g (.agg [.sl (hourRows s)] :: caps) (.bool (q s))) (hl : xs.length < 2 ^ 62) : Fn Try.prog 101 [.sl (scenRows xs), .fn g caps] (.i (idxFrom q xs 0)) := by
  refine fn_walk 19 Try.call101 Try.func101 rfl (by decide) fun J => ?_
  simp (maxSteps := 4000000) only [go_sem, St.start, Try.ntmps101, Try.results101]
  repeat (first | refine walkL_seq ?_ | refine walkL_skip ?_ | refine walkL_block ?_ | (refine walkL_region fun K hK => ?_; simp (maxSteps := 4000000) only [go_sem]; refine hK _ ?_; clear hK K) | refine walkL_nil ?_ | refine walkL_ret ?_ | refine walkL_exit ?_ | refine blockA_here ?_ | refine blockA_other rfl ?_ | refine blockA_ret ?_ | refine blockA_normal ?_ | refine thenA_ret ?_ | refine thenA_exit ?_ | refine thenA_normal ?_)
  refine walkL_loopS (fun (i : Nat) => [(8, .d (.i i))]) (fun _ => []) (fun i => i ≤ xs.length ∧ idxFrom q xs 0 = idxFrom q (xs.drop i) i) (fun i => xs.length - i) 0 ?_ ⟨Nat.zero_le _, rfl⟩ ?_
  · simp (maxSteps := 4000000) only [go_sem]
    refine weak_of [] ?_ ?_ rfl rfl <;> simp [lessT, lessM, lessB, AV.less]
  · intro i ⟨hi, hq0⟩
    simp (maxSteps := 4000000) only [go_sem]
    repeat (first | refine walkL_seq ?_ | refine walkL_skip ?_ | refine walkL_block ?_ | (refine walkL_region fun K hK => ?_; simp (maxSteps := 4000000) only [go_sem]; refine hK _ ?_; clear hK K) | refine walkL_nil ?_ | refine walkL_ret ?_ | refine walkL_exit ?_ | refine blockA_here ?_ | refine blockA_other rfl ?_ | refine blockA_ret ?_ | refine blockA_normal ?_ | refine thenA_ret ?_ | refine thenA_exit ?_ | refine thenA_normal ?_)
    refine walkL_cond rfl (fun hb => ?_) (fun hb => ?_)
    · have hlt : i < xs.length := by simpa using hb
      have hw : IntKind.i64.wrap ((i : Int) + 1) = ((i + 1 : Nat) : Int) := by rw [wr_small (by omega)]; simp
      obtain ⟨s, hs⟩ : ∃ s, xs[i]? = some s := ⟨_, List.getElem?_eq_getElem hlt⟩
      rw [drop_get hs, idxFrom] at hq0
      repeat (first | refine walkL_seq ?_ | refine walkL_skip ?_ | refine walkL_block ?_ | (refine walkL_region fun K hK => ?_; simp (maxSteps := 4000000) only [go_sem]; refine hK _ ?_; clear hK K) | refine walkL_nil ?_ | refine walkL_ret ?_ | refine walkL_exit ?_ | refine blockA_here ?_ | refine blockA_other rfl ?_ | refine blockA_ret ?_ | refine blockA_normal ?_ | refine thenA_ret ?_ | refine thenA_exit ?_ | refine thenA_normal ?_)
      refine walkL_region fun K hK => ?_
      simp (maxSteps := 4000000) only [go_sem, hs, List.getElem?_map, scenRows_at hs, hw]
      refine ⟨_, .lent (hf := hq s (List.mem_of_getElem? hs)) (hd := reify_caps _ _ _ _ rfl) (hr := rfl), ?_⟩
      simp (maxSteps := 4000000) only [go_sem]
      refine hK _ ?_
      clear hK K
      refine walkL_cond rfl (fun hc => ?_) (fun hc => ?_)
      · rw [hc, if_pos rfl] at hq0
        repeat (first | refine walkL_seq ?_ | refine walkL_skip ?_ | refine walkL_block ?_ | (refine walkL_region fun K hK => ?_; simp (maxSteps := 4000000) only [go_sem]; refine hK _ ?_; clear hK K) | refine walkL_nil ?_ | refine walkL_ret ?_ | refine walkL_exit ?_ | refine blockA_here ?_ | refine blockA_other rfl ?_ | refine blockA_ret ?_ | refine blockA_normal ?_ | refine thenA_ret ?_ | refine thenA_exit ?_ | refine thenA_normal ?_)
        simp (maxSteps := 4000000) only [go_sem, hq0]
      · rw [hc] at hq0
        repeat (first | refine walkL_seq ?_ | refine walkL_skip ?_ | refine walkL_block ?_ | (refine walkL_region fun K hK => ?_; simp (maxSteps := 4000000) only [go_sem, hw]; refine hK _ ?_; clear hK K) | refine walkL_nil ?_ | refine walkL_ret ?_ | refine walkL_exit ?_ | refine blockA_here ?_ | refine blockA_other rfl ?_ | refine blockA_ret ?_ | refine blockA_normal ?_ | refine thenA_ret ?_ | refine thenA_exit ?_ | refine thenA_normal ?_)
        refine ⟨rfl, i + 1, ?_, ⟨hlt, hq0⟩, by omega⟩
        refine weak_of [] ?_ ?_ rfl rfl <;> simp [lessT, lessM, lessB, AV.less]
    · have he : i = xs.length := by (have : ¬ i < xs.length := by simpa using hb); omega
      subst he
      repeat (first | refine walkL_seq ?_ | refine walkL_skip ?_ | refine walkL_block ?_ | (refine walkL_region fun K hK => ?_; simp (maxSteps := 4000000) only [go_sem]; refine hK _ ?_; clear hK K) | refine walkL_nil ?_ | refine walkL_ret ?_ | refine walkL_exit ?_ | refine blockA_here ?_ | refine blockA_other rfl ?_ | refine blockA_ret ?_ | refine blockA_normal ?_ | refine thenA_ret ?_ | refine thenA_exit ?_ | refine thenA_normal ?_)
      simp (maxSteps := 4000000) only [go_sem, hq0, List.drop_length, idxFrom]
theorem f97 (xs : List (List Hour)) (g : Nat) (caps : List DV) (q : (List Hour) → Bool) (hq : ∀ s ∈ xs, Fn Try.prog g (.agg [.sl (hourRows s)] :: caps) (.bool (q s))) (hl : xs.length < 2 ^ 62) : Fn Try.prog 97 [.sl (scenRows xs), .fn g caps] (.bool (xs.any q)) := by
  refine fn_walk 9 Try.call97 Try.func97 rfl (by decide) fun J => ?_
  simp (maxSteps := 4000000) only [go_sem, St.start, Try.ntmps97, Try.results97]
  repeat (first | refine walkL_seq ?_ | refine walkL_skip ?_ | refine walkL_block ?_ | (refine walkL_region fun K hK => ?_; simp (maxSteps := 4000000) only [go_sem]; (repeat (first | (refine ⟨_, .lent (hf := f101 xs g caps q hq hl) (hd := rfl) (hr := rfl), ?_⟩; simp (maxSteps := 4000000) only [go_sem]) | (refine ⟨_, .given (hf := f101 xs g caps q hq hl) (hd := rfl) (ha := rfl), ?_⟩; simp (maxSteps := 4000000) only [go_sem]))); refine hK _ ?_; clear hK K) | refine walkL_nil ?_ | refine walkL_ret ?_ | refine walkL_exit ?_ | refine blockA_here ?_ | refine blockA_other rfl ?_ | refine blockA_ret ?_ | refine blockA_normal ?_ | refine thenA_ret ?_ | refine thenA_exit ?_ | refine thenA_normal ?_)
  simp (maxSteps := 4000000) only [go_sem, idxFrom_nonneg]
theorem f98 (s : (List Hour)) (g : Nat) (caps : List DV) (b : Bool) (hq : Fn Try.prog g (.agg [.sl (hourRows s)] :: caps) (.bool b)) : Fn Try.prog 98 [.agg [.sl (hourRows s)], .ptr [.fn g caps] 0] (.bool (!b)) := by
  refine fn_walk 8 Try.call98 Try.func98 rfl (by decide) fun J => ?_
  simp (maxSteps := 4000000) only [go_sem, St.start, Try.ntmps98, Try.results98]
  repeat (first | refine walkL_seq ?_ | refine walkL_skip ?_ | refine walkL_block ?_ | (refine walkL_region fun K hK => ?_; simp (maxSteps := 4000000) only [go_sem]; refine hK _ ?_; clear hK K) | refine walkL_nil ?_ | refine walkL_ret ?_ | refine walkL_exit ?_ | refine blockA_here ?_ | refine blockA_other rfl ?_ | refine blockA_ret ?_ | refine blockA_normal ?_ | refine thenA_ret ?_ | refine thenA_exit ?_ | refine thenA_normal ?_)
  refine walkL_region fun K hK => ?_
  simp (maxSteps := 4000000) only [go_sem]
  refine ⟨_, .lent (hf := hq) (hd := reify_caps _ _ _ _ rfl) (hr := rfl), ?_⟩
  simp (maxSteps := 4000000) only [go_sem]
  refine hK _ ?_
  clear hK K
  repeat (first | refine walkL_seq ?_ | refine walkL_skip ?_ | refine walkL_block ?_ | (refine walkL_region fun K hK => ?_; simp (maxSteps := 4000000) only [go_sem]; refine hK _ ?_; clear hK K) | refine walkL_nil ?_ | refine walkL_ret ?_ | refine walkL_exit ?_ | refine blockA_here ?_ | refine blockA_other rfl ?_ | refine blockA_ret ?_ | refine blockA_normal ?_ | refine thenA_ret ?_ | refine thenA_exit ?_ | refine thenA_normal ?_)
  simp (maxSteps := 4000000) only [go_sem]
theorem f84 (xs : List (List Hour)) (g : Nat) (caps : List DV) (q : (List Hour) → Bool) (hq : ∀ s ∈ xs, Fn Try.prog g (.agg [.sl (hourRows s)] :: caps) (.bool (q s))) (hl : xs.length < 2 ^ 62) : Fn Try.prog 84 [.sl (scenRows xs), .fn g caps] (.bool (xs.all q)) := by
  have h := f97 xs 98 [.ptr [.fn g caps] 0] (fun s => !q s) (fun s hs => f98 s g caps (q s) (hq s hs)) hl
  refine fn_walk 9 Try.call84 Try.func84 rfl (by decide) fun J => ?_
  simp (maxSteps := 4000000) only [go_sem, St.start, Try.ntmps84, Try.results84]
  repeat (first | refine walkL_seq ?_ | refine walkL_skip ?_ | refine walkL_block ?_ | (refine walkL_region fun K hK => ?_; simp (maxSteps := 4000000) only [go_sem]; (repeat (first | (refine ⟨_, .lent (hf := h) (hd := rfl) (hr := rfl), ?_⟩; simp (maxSteps := 4000000) only [go_sem]) | (refine ⟨_, .given (hf := h) (hd := rfl) (ha := rfl), ?_⟩; simp (maxSteps := 4000000) only [go_sem]))); refine hK _ ?_; clear hK K) | refine walkL_nil ?_ | refine walkL_ret ?_ | refine walkL_exit ?_ | refine blockA_here ?_ | refine blockA_other rfl ?_ | refine blockA_ret ?_ | refine blockA_normal ?_ | refine thenA_ret ?_ | refine thenA_exit ?_ | refine thenA_normal ?_)
  simp (maxSteps := 4000000) only [go_sem, any_not]
end Go.Ab
namespace Go.Ab
open Go.RowKit Go.Proofs
set_option maxHeartbeats 4000000
set_option maxRecDepth 20000
attribute [local irreducible] WalkL Walk
structure ForeSmall (F : List (List Hour)) : Prop where
  scen : F.length < 2 ^ 30
  hours : ∀ l ∈ F, l.length < 2 ^ 30
def scenB (h0 x : List Hour) : Bool := withinB x.length 1 48 && (((x.length : Int) == (h0.length : Int)) && x.all hourB)
theorem f81 (F : List (List Hour)) (h0 x : List Hour) (h : F[0]? = some h0) (hx : x.length < 2 ^ 30) : Fn Try.prog 81 [.agg [.sl (hourRows x)], .ptr [.sl (scenRows F)] 0] (.bool (scenB h0 x)) := by
  have g0 := scenRows_at h
  refine fn_walk 25 Try.call81 Try.func81 rfl (by decide) fun J => ?_
  simp (maxSteps := 4000000) only [go_sem, St.start, Try.ntmps81, Try.results81]
  repeat (first | refine walkL_seq ?_ | refine walkL_skip ?_ | refine walkL_block ?_ | (refine walkL_region fun K hK => ?_; simp (maxSteps := 4000000) only [go_sem]; refine hK _ ?_; clear hK K) | refine walkL_nil ?_ | refine walkL_ret ?_ | refine walkL_exit ?_ | refine blockA_here ?_ | refine blockA_other rfl ?_ | refine blockA_ret ?_ | refine blockA_normal ?_ | refine thenA_ret ?_ | refine thenA_exit ?_ | refine thenA_normal ?_)
  refine walkL_meetS [(3, .d (.bool (scenB h0 x)))] [] ?_ ?_
  · refine walkL_drawn (by kernel_rfl) (by kernel_rfl) fun K hK => ?_
    simp (maxSteps := 4000000) only [go_sem, g0]
    refine ⟨_, .fn (hf := f45 x.length 1 48) (hd := rfl) (hr := .inl rfl), ?_⟩
    simp (maxSteps := 4000000) only [go_sem, g0]
    by_cases ho0 : (withinB x.length 1 48) = true
    · simp (maxSteps := 4000000) only [go_sem, g0, ho0]
      by_cases ho1 : ((x.length : Int) == (h0.length : Int)) = true
      · simp (maxSteps := 4000000) only [go_sem, g0, ho0, ho1]
        refine ⟨_, .fn (hf := f82 x 83 [] hourB (fun s _ => f83 s) (by omega)) (hd := rfl) (hr := .inl rfl), ?_⟩
        simp (maxSteps := 4000000) only [go_sem, g0, ho0, ho1]
        refine ⟨by kernel_rfl, hK _ ?_⟩
        clear hK K
        refine walkL_nil ?_
        refine thenA_normal ?_
        refine ⟨rfl, ?_⟩
        rw [show (scenB h0 x) = (x.all hourB) from by simp [scenB, ho0, ho1]]
        simp (maxSteps := 4000000) only [go_sem]
        refine weak_of [] ?_ ?_ rfl rfl <;> simp [lessT, lessM, lessB, AV.less]
      · simp (maxSteps := 4000000) only [go_sem, g0, ho0, ho1]
        refine ⟨by kernel_rfl, hK _ ?_⟩
        clear hK K
        refine walkL_nil ?_
        refine thenA_normal ?_
        refine ⟨rfl, ?_⟩
        rw [show (scenB h0 x) = (false) from by simp [scenB, ho0, ho1]]
        simp (maxSteps := 4000000) only [go_sem]
        refine weak_of [] ?_ ?_ rfl rfl <;> simp [lessT, lessM, lessB, AV.less]
    · simp (maxSteps := 4000000) only [go_sem, g0, ho0]
      refine ⟨by kernel_rfl, hK _ ?_⟩
      clear hK K
      refine walkL_nil ?_
      refine thenA_normal ?_
      refine ⟨rfl, ?_⟩
      rw [show (scenB h0 x) = (false) from by simp [scenB, ho0]]
      simp (maxSteps := 4000000) only [go_sem]
      refine weak_of [] ?_ ?_ rfl rfl <;> simp [lessT, lessM, lessB, AV.less]
  simp (maxSteps := 4000000) only [go_sem]
  repeat (first | refine walkL_seq ?_ | refine walkL_skip ?_ | refine walkL_block ?_ | (refine walkL_region fun K hK => ?_; simp (maxSteps := 4000000) only [go_sem]; refine hK _ ?_; clear hK K) | refine walkL_nil ?_ | refine walkL_ret ?_ | refine walkL_exit ?_ | refine blockA_here ?_ | refine blockA_other rfl ?_ | refine blockA_ret ?_ | refine blockA_normal ?_ | refine thenA_ret ?_ | refine thenA_exit ?_ | refine thenA_normal ?_)
  simp (maxSteps := 4000000) only [go_sem]
def hd0 (F : List (List Hour)) : List Hour := F.headD []
def badF (F : List (List Hour)) : Bool := !withinB F.length 1 6 || !(F.all (scenB (hd0 F)))
def foreF (F : List (List Hour)) : Int := if badF F then 50 else 0
theorem headD_get {F : List (List Hour)} (h : 0 < F.length) : F[0]? = some (hd0 F) := by
  cases F with
  | nil => simp at h
  | cons a l => rfl
theorem f63 (F : List (List Hour)) (hs : ForeSmall F) : Fn Try.prog 63 [.agg [.sl (scenRows F)]] (.i (foreF F)) := by
  have h1 := hs.scen
  have h116 : withinB F.length 1 6 = true → Fn Try.prog 84 [.sl (scenRows F), .fn 81 [.ptr [.sl (scenRows F)] 0]] (.bool (F.all (scenB (hd0 F)))) := fun h =>
    f84 F 81 [.ptr [.sl (scenRows F)] 0] (scenB (hd0 F)) (fun s hm => f81 F (hd0 F) s (headD_get (by have := within_iff.1 h; omega)) (hs.hours s hm)) (by omega)
  refine fn_walk 17 Try.call63 Try.func63 rfl (by decide) fun J => ?_
  simp (maxSteps := 4000000) only [go_sem, St.start, Try.ntmps63, Try.results63]
  repeat (first | refine walkL_seq ?_ | refine walkL_skip ?_ | refine walkL_block ?_ | (refine walkL_region fun K hK => ?_; simp (maxSteps := 4000000) only [go_sem]; refine hK _ ?_; clear hK K) | refine walkL_nil ?_ | refine walkL_ret ?_ | refine walkL_exit ?_ | refine blockA_here ?_ | refine blockA_other rfl ?_ | refine blockA_ret ?_ | refine blockA_normal ?_ | refine thenA_ret ?_ | refine thenA_exit ?_ | refine thenA_normal ?_)
  refine walkL_meetS [(16, .d (.bool (badF F)))] [] ?_ ?_
  · refine walkL_region fun K hK => ?_
    simp (maxSteps := 4000000) only [go_sem]
    refine ⟨_, .lent (hf := f45 F.length 1 6) (hd := rfl) (hr := rfl), ?_⟩
    simp (maxSteps := 4000000) only [go_sem]
    by_cases ho0 : (!withinB F.length 1 6) = true
    · simp (maxSteps := 4000000) only [go_sem, ho0]
      refine hK _ ?_
      clear hK K
      refine walkL_nil ?_
      refine thenA_normal ?_
      refine ⟨rfl, ?_⟩
      rw [show (badF F) = (true) from by simp [badF, ho0]]
      simp (maxSteps := 4000000) only [go_sem]
      refine weak_of [] ?_ ?_ rfl rfl <;> simp [lessT, lessM, lessB, AV.less]
    · simp (maxSteps := 4000000) only [go_sem, ho0]
      refine ⟨_, .lent (hf := h116 (by simpa using ho0)) (hd := rfl) (hr := rfl), ?_⟩
      simp (maxSteps := 4000000) only [go_sem, ho0]
      refine hK _ ?_
      clear hK K
      refine walkL_nil ?_
      refine thenA_normal ?_
      refine ⟨rfl, ?_⟩
      rw [show (badF F) = (!(F.all (scenB (hd0 F)))) from by simp [badF, ho0]]
      simp (maxSteps := 4000000) only [go_sem]
      refine weak_of [] ?_ ?_ rfl rfl <;> simp [lessT, lessM, lessB, AV.less]
  · simp (maxSteps := 4000000) only [go_sem]
    repeat (first | refine walkL_seq ?_ | refine walkL_skip ?_ | refine walkL_block ?_ | (refine walkL_region fun K hK => ?_; simp (maxSteps := 4000000) only [go_sem]; refine hK _ ?_; clear hK K) | refine walkL_nil ?_ | refine walkL_ret ?_ | refine walkL_exit ?_ | refine blockA_here ?_ | refine blockA_other rfl ?_ | refine blockA_ret ?_ | refine blockA_normal ?_ | refine thenA_ret ?_ | refine thenA_exit ?_ | refine thenA_normal ?_)
    refine walkL_cond rfl (fun hc => ?_) (fun hc => ?_)
    · repeat (first | refine walkL_seq ?_ | refine walkL_skip ?_ | refine walkL_block ?_ | (refine walkL_region fun K hK => ?_; simp (maxSteps := 4000000) only [go_sem]; refine hK _ ?_; clear hK K) | refine walkL_nil ?_ | refine walkL_ret ?_ | refine walkL_exit ?_ | refine blockA_here ?_ | refine blockA_other rfl ?_ | refine blockA_ret ?_ | refine blockA_normal ?_ | refine thenA_ret ?_ | refine thenA_exit ?_ | refine thenA_normal ?_)
      simp (maxSteps := 4000000) only [go_sem, foreF, hc]
    · repeat (first | refine walkL_seq ?_ | refine walkL_skip ?_ | refine walkL_block ?_ | (refine walkL_region fun K hK => ?_; simp (maxSteps := 4000000) only [go_sem]; refine hK _ ?_; clear hK K) | refine walkL_nil ?_ | refine walkL_ret ?_ | refine walkL_exit ?_ | refine blockA_here ?_ | refine blockA_other rfl ?_ | refine blockA_ret ?_ | refine blockA_normal ?_ | refine thenA_ret ?_ | refine thenA_exit ?_ | refine thenA_normal ?_)
      simp (maxSteps := 4000000) only [go_sem, foreF, hc]
def sightOk (H : Int) (s : Sight) : Bool := withinB s.hour 0 (H - 1) && hourB (pointH s.sky)
def sightsB (H : Int) (l : List Sight) : Bool := l.all (sightOk H) && (decide ((l.map (·.hour)).Nodup) && decide ((l.length : Int) ≤ 20))
def entsFrom : List Sight → Nat → List (MK × DV × Nat)
  | [], _ => []
  | s :: l, j => (.i s.hour, .i 1, j) :: entsFrom l (j + 1)
theorem ents_none {k : Int} : ∀ (l : List Sight) (j i : Nat), k ∉ l.map (·.hour) → findE (entsFrom l j) (.i k) i = none
  | [], _, _, _ => rfl
  | s :: l, j, i, h => by
    simp only [List.map_cons, List.mem_cons, not_or] at h
    rw [entsFrom, findE, if_neg (fun e => h.1 (MK.i.inj e))]
    exact ents_none l (j + 1) (i + 1) h.2
theorem ents_some {k : Int} : ∀ (l : List Sight) (j i : Nat), k ∈ l.map (·.hour) → ∃ q b, findE (entsFrom l j) (.i k) i = some (i + q, .i 1, b)
  | [], _, _, h => by simp at h
  | s :: l, j, i, h => by
    rw [entsFrom, findE]
    by_cases hk : k = s.hour
    · exact ⟨0, j, by rw [if_pos (by rw [hk])]; rfl⟩
    · rw [if_neg (fun e => hk (MK.i.inj e))]
      obtain ⟨q, b, hq⟩ := ents_some l (j + 1) (i + 1) (by simpa [hk] using h)
      exact ⟨q + 1, b, by rw [hq]; congr 2; omega⟩
theorem findE_set {k : MK} {d v : DV} {b : Nat} : ∀ (es : List (MK × DV × Nat)) (i q : Nat), findE es k i = some (i + q, v, b) → findE (es.set q (k, d, b)) k i = some (i + q, d, b)
  | [], _, _, h => by cases h
  | e :: es, i, q, h => by
    rw [findE] at h
    by_cases hk : k = e.1
    · rw [if_pos hk] at h
      have : q = 0 := by
        have := congrArg (fun o => o.map (·.1)) h
        simp at this
        omega
      subst this
      rw [List.set_cons_zero, findE, if_pos rfl]
      rfl
    · rw [if_neg hk] at h
      cases q with
      | zero =>
        exfalso
        have : ∀ (es : List (MK × DV × Nat)) (i p : Nat) (r : DV × Nat), findE es k i = some (p, r) → i ≤ p := by
          intro es
          induction es with
          | nil => intro i p r h; cases h
          | cons e es ih =>
            intro i p r h
            rw [findE] at h
            split at h
            · cases h; exact Nat.le_refl _
            · have := ih (i + 1) p r h; omega
        have := this es (i + 1) (i + 0) _ h
        omega
      | succ q =>
        rw [List.set_cons_succ, findE, if_neg hk, show i + (q + 1) = (i + 1) + q by omega]
        exact findE_set es (i + 1) q (by rw [h]; congr 2; omega)
theorem findE_push {k : MK} {d : DV} {b : Nat} : ∀ (es : List (MK × DV × Nat)) (i : Nat), findE es k i = none → findE (es ++ [(k, d, b)]) k i = some (i + es.length, d, b)
  | [], i, _ => by simp [findE]
  | e :: es, i, h => by
    rw [findE] at h
    split at h
    · cases h
    · rename_i hk
      rw [List.cons_append, findE, if_neg hk, findE_push es (i + 1) h]
      congr 2
      simp; omega
theorem ents_push (s : Sight) : ∀ (l : List Sight) (j : Nat), entsFrom (l ++ [s]) j = entsFrom l j ++ [(.i s.hour, .i 1, j + l.length)]
  | [], j => by simp [entsFrom]
  | x :: l, j => by simp [entsFrom, ents_push s l]; omega
theorem f64 (F : List (List Hour)) (h0 : List Hour) (seen : List Sight) (h : F[0]? = some h0) (hl : h0.length < 2 ^ 30) (hsl : seen.length < 2 ^ 30) :
    Fn Try.prog 64 [.agg [.sl (scenRows F)], .sl (sightRows seen)] (.bool (sightsB h0.length seen)) := by
  have g0 := scenRows_at h
  have hw0 : IntKind.i64.wrap ((h0.length : Int) - 1) = (h0.length : Int) - 1 := wr_small (by omega)
  have w1 : IntKind.i64.wrap (0 + 1) = 1 := by decide
  have w2 : IntKind.i64.wrap (1 + 1) = 2 := by decide
  have d21 : decide ((2 : Int) > 1) = true := rfl
  have d11 : decide ((1 : Int) > 1) = false := rfl
  refine fn_walk 49 Try.call64 Try.func64 rfl (by decide) fun J => ?_
  simp (maxSteps := 4000000) only [go_sem, St.start, Try.ntmps64, Try.results64]
  repeat (first | refine walkL_seq ?_ | refine walkL_skip ?_ | refine walkL_block ?_ | (refine walkL_region fun K hK => ?_; simp (maxSteps := 4000000) only [go_sem]; refine hK _ ?_; clear hK K) | refine walkL_nil ?_ | refine walkL_ret ?_ | refine walkL_exit ?_ | refine blockA_here ?_ | refine blockA_other rfl ?_ | refine blockA_ret ?_ | refine blockA_normal ?_ | refine thenA_ret ?_ | refine thenA_exit ?_ | refine thenA_normal ?_)
  refine walkL_loopS (fun (i : Nat) => [(11, .d (.i i))]) (fun i => [(8, some (.mp none (entsFrom (seen.take i) 0) i))]) (fun i => i ≤ seen.length ∧ (seen.take i).all (sightOk h0.length) = true ∧ ((seen.take i).map (·.hour)).Nodup) (fun i => seen.length - i) 0 ?_ ⟨Nat.zero_le _, rfl, by simp⟩ ?_
  · simp (maxSteps := 4000000) only [go_sem]
    refine weak_of [] ?_ ?_ rfl rfl <;> simp [lessT, lessM, lessB, AV.less]
    first | done | rfl
  · intro i ⟨hi, hall, hnd⟩
    simp (maxSteps := 4000000) only [go_sem]
    repeat (first | refine walkL_seq ?_ | refine walkL_skip ?_ | refine walkL_block ?_ | (refine walkL_region fun K hK => ?_; simp (maxSteps := 4000000) only [go_sem]; refine hK _ ?_; clear hK K) | refine walkL_nil ?_ | refine walkL_ret ?_ | refine walkL_exit ?_ | refine blockA_here ?_ | refine blockA_other rfl ?_ | refine blockA_ret ?_ | refine blockA_normal ?_ | refine thenA_ret ?_ | refine thenA_exit ?_ | refine thenA_normal ?_)
    refine walkL_cond rfl (fun hb => ?_) (fun hb => ?_)
    · have hlt : i < seen.length := by simpa using hb
      have hw : IntKind.i64.wrap ((i : Int) + 1) = ((i + 1 : Nat) : Int) := by rw [wr_small (by omega)]; simp
      obtain ⟨s, hs⟩ : ∃ s, seen[i]? = some s := ⟨_, List.getElem?_eq_getElem hlt⟩
      have g1 := sightRows_at hs
      have h113 := f45 s.hour 0 ((h0.length : Int) - 1)
      have h111 := f69 s.sky
      have h115 := f83 (pointH s.sky)
      rw [Sky.row] at h111
      have htk : seen.take (i + 1) = seen.take i ++ [s] := by rw [List.take_add_one, hs]; rfl
      obtain ⟨b1, e1⟩ : ∃ b, b = withinB s.hour 0 ((h0.length : Int) - 1) := ⟨_, rfl⟩
      obtain ⟨b3, e3⟩ : ∃ b, b = hourB (pointH s.sky) := ⟨_, rfl⟩
      have hok : sightOk h0.length s = (b1 && b3) := by rw [sightOk, e1, e3]
      rw [← e1] at h113
      rw [← e3] at h115
      have hbad : sightOk h0.length s = false → sightsB h0.length seen = false := fun hf => by rw [sightsB, all_of_get hs hf]; rfl
      by_cases hk : s.hour ∈ (seen.take i).map (·.hour)
      · obtain ⟨q, b, hq⟩ := ents_some (seen.take i) 0 0 hk
        have hq2 := findE_set (d := .i 2) _ 0 q hq
        rw [Nat.zero_add] at hq hq2
        have hF : sightsB h0.length seen = false := by
          have : ¬ (seen.map (·.hour)).Nodup := fun hn => by
            have h3 : (((seen.take (i + 1)).map (·.hour))).Nodup := (List.Sublist.map _ (List.take_sublist _ _)).nodup hn
            rw [htk, List.map_append, List.nodup_append] at h3
            exact h3.2.2 _ hk _ (by simp) rfl
          simp [sightsB, this]
        repeat (first | refine walkL_seq ?_ | refine walkL_skip ?_ | refine walkL_block ?_ | (refine walkL_region fun K hK => ?_; simp (maxSteps := 4000000) only [go_sem, g1, Sight.row, hq, w2]; refine hK _ ?_; clear hK K) | refine walkL_nil ?_ | refine walkL_ret ?_ | refine walkL_exit ?_ | refine blockA_here ?_ | refine blockA_other rfl ?_ | refine blockA_ret ?_ | refine blockA_normal ?_ | refine thenA_ret ?_ | refine thenA_exit ?_ | refine thenA_normal ?_)
        cases b1
        all_goals
          repeat (first | refine walkL_seq ?_ | refine walkL_skip ?_ | refine walkL_block ?_ | (refine walkL_region fun K hK => ?_; simp (maxSteps := 4000000) only [go_sem, g1, g0, Sight.row, hq2, hw0, d21, d11]; (repeat (first | (refine ⟨_, .lent (hf := h113) (hd := rfl) (hr := rfl), ?_⟩; simp (maxSteps := 4000000) only [go_sem, g1, g0, Sight.row, hq2, hw0, d21, d11]) | (refine ⟨_, .given (hf := h113) (hd := rfl) (ha := rfl), ?_⟩; simp (maxSteps := 4000000) only [go_sem, g1, g0, Sight.row, hq2, hw0, d21, d11]))); refine hK _ ?_; clear hK K) | (refine walkL_drawn (by kernel_rfl) (by kernel_rfl) fun K hK => ?_; simp (maxSteps := 4000000) only [go_sem, g1, g0, Sight.row, hq2, hw0, d21, d11]; (repeat (first | (refine ⟨_, .fn (hf := h113) (hd := rfl) (hr := .inl rfl), ?_⟩; simp (maxSteps := 4000000) only [go_sem, g1, g0, Sight.row, hq2, hw0, d21, d11]))); refine ⟨by kernel_rfl, hK _ ?_⟩; clear hK K) | refine walkL_nil ?_ | refine walkL_ret ?_ | refine walkL_exit ?_ | refine blockA_here ?_ | refine blockA_other rfl ?_ | refine blockA_ret ?_ | refine blockA_normal ?_ | refine thenA_ret ?_ | refine thenA_exit ?_ | refine thenA_normal ?_)
          refine walkL_true rfl ?_
          repeat (first | refine walkL_seq ?_ | refine walkL_skip ?_ | refine walkL_block ?_ | (refine walkL_region fun K hK => ?_; simp (maxSteps := 4000000) only [go_sem]; refine hK _ ?_; clear hK K) | refine walkL_nil ?_ | refine walkL_ret ?_ | refine walkL_exit ?_ | refine blockA_here ?_ | refine blockA_other rfl ?_ | refine blockA_ret ?_ | refine blockA_normal ?_ | refine thenA_ret ?_ | refine thenA_exit ?_ | refine thenA_normal ?_)
          simp (maxSteps := 4000000) only [go_sem, hF]
      · have hq := ents_none (seen.take i) 0 0 hk
        have hq2 := findE_push (d := .i 1) (b := i) _ 0 hq
        rw [Nat.zero_add] at hq2
        have hp := ents_push s (seen.take i) 0
        have htl : (seen.take i).length = i := by simp; omega
        rw [← htk, htl, Nat.zero_add] at hp
        repeat (first | refine walkL_seq ?_ | refine walkL_skip ?_ | refine walkL_block ?_ | (refine walkL_region fun K hK => ?_; simp (maxSteps := 4000000) only [go_sem, g1, Sight.row, hq, w1]; refine hK _ ?_; clear hK K) | refine walkL_nil ?_ | refine walkL_ret ?_ | refine walkL_exit ?_ | refine blockA_here ?_ | refine blockA_other rfl ?_ | refine blockA_ret ?_ | refine blockA_normal ?_ | refine thenA_ret ?_ | refine thenA_exit ?_ | refine thenA_normal ?_)
        cases b1
        · repeat (first | refine walkL_seq ?_ | refine walkL_skip ?_ | refine walkL_block ?_ | (refine walkL_region fun K hK => ?_; simp (maxSteps := 4000000) only [go_sem, g1, g0, Sight.row, hq2, hw0, d21, d11]; (repeat (first | (refine ⟨_, .lent (hf := h113) (hd := rfl) (hr := rfl), ?_⟩; simp (maxSteps := 4000000) only [go_sem, g1, g0, Sight.row, hq2, hw0, d21, d11]) | (refine ⟨_, .given (hf := h113) (hd := rfl) (ha := rfl), ?_⟩; simp (maxSteps := 4000000) only [go_sem, g1, g0, Sight.row, hq2, hw0, d21, d11]))); refine hK _ ?_; clear hK K) | (refine walkL_drawn (by kernel_rfl) (by kernel_rfl) fun K hK => ?_; simp (maxSteps := 4000000) only [go_sem, g1, g0, Sight.row, hq2, hw0, d21, d11]; (repeat (first | (refine ⟨_, .fn (hf := h113) (hd := rfl) (hr := .inl rfl), ?_⟩; simp (maxSteps := 4000000) only [go_sem, g1, g0, Sight.row, hq2, hw0, d21, d11]))); refine ⟨by kernel_rfl, hK _ ?_⟩; clear hK K) | refine walkL_nil ?_ | refine walkL_ret ?_ | refine walkL_exit ?_ | refine blockA_here ?_ | refine blockA_other rfl ?_ | refine blockA_ret ?_ | refine blockA_normal ?_ | refine thenA_ret ?_ | refine thenA_exit ?_ | refine thenA_normal ?_)
          refine walkL_true rfl ?_
          repeat (first | refine walkL_seq ?_ | refine walkL_skip ?_ | refine walkL_block ?_ | (refine walkL_region fun K hK => ?_; simp (maxSteps := 4000000) only [go_sem]; refine hK _ ?_; clear hK K) | refine walkL_nil ?_ | refine walkL_ret ?_ | refine walkL_exit ?_ | refine blockA_here ?_ | refine blockA_other rfl ?_ | refine blockA_ret ?_ | refine blockA_normal ?_ | refine thenA_ret ?_ | refine thenA_exit ?_ | refine thenA_normal ?_)
          simp (maxSteps := 4000000) only [go_sem, hbad (by rw [hok]; rfl)]
        · cases b3
          · repeat (first | refine walkL_seq ?_ | refine walkL_skip ?_ | refine walkL_block ?_ | (refine walkL_region fun K hK => ?_; simp (maxSteps := 4000000) only [go_sem, g1, g0, Sight.row, hq2, hw0, d21, d11, pointH]; (repeat (first | (refine ⟨_, .lent (hf := h113) (hd := rfl) (hr := rfl), ?_⟩; simp (maxSteps := 4000000) only [go_sem, g1, g0, Sight.row, hq2, hw0, d21, d11, pointH]) | (refine ⟨_, .lent (hf := h111) (hd := rfl) (hr := rfl), ?_⟩; simp (maxSteps := 4000000) only [go_sem, g1, g0, Sight.row, hq2, hw0, d21, d11, pointH]) | (refine ⟨_, .lent (hf := h115) (hd := rfl) (hr := rfl), ?_⟩; simp (maxSteps := 4000000) only [go_sem, g1, g0, Sight.row, hq2, hw0, d21, d11, pointH]) | (refine ⟨_, .given (hf := h113) (hd := rfl) (ha := rfl), ?_⟩; simp (maxSteps := 4000000) only [go_sem, g1, g0, Sight.row, hq2, hw0, d21, d11, pointH]) | (refine ⟨_, .given (hf := h111) (hd := rfl) (ha := rfl), ?_⟩; simp (maxSteps := 4000000) only [go_sem, g1, g0, Sight.row, hq2, hw0, d21, d11, pointH]) | (refine ⟨_, .given (hf := h115) (hd := rfl) (ha := rfl), ?_⟩; simp (maxSteps := 4000000) only [go_sem, g1, g0, Sight.row, hq2, hw0, d21, d11, pointH]))); refine hK _ ?_; clear hK K) | (refine walkL_drawn (by kernel_rfl) (by kernel_rfl) fun K hK => ?_; simp (maxSteps := 4000000) only [go_sem, g1, g0, Sight.row, hq2, hw0, d21, d11, pointH]; (repeat (first | (refine ⟨_, .fn (hf := h113) (hd := rfl) (hr := .inl rfl), ?_⟩; simp (maxSteps := 4000000) only [go_sem, g1, g0, Sight.row, hq2, hw0, d21, d11, pointH]) | (refine ⟨_, .fn (hf := h111) (hd := rfl) (hr := .inl rfl), ?_⟩; simp (maxSteps := 4000000) only [go_sem, g1, g0, Sight.row, hq2, hw0, d21, d11, pointH]) | (refine ⟨_, .fn (hf := h115) (hd := rfl) (hr := .inl rfl), ?_⟩; simp (maxSteps := 4000000) only [go_sem, g1, g0, Sight.row, hq2, hw0, d21, d11, pointH]))); refine ⟨by kernel_rfl, hK _ ?_⟩; clear hK K) | refine walkL_nil ?_ | refine walkL_ret ?_ | refine walkL_exit ?_ | refine blockA_here ?_ | refine blockA_other rfl ?_ | refine blockA_ret ?_ | refine blockA_normal ?_ | refine thenA_ret ?_ | refine thenA_exit ?_ | refine thenA_normal ?_)
            refine walkL_true rfl ?_
            repeat (first | refine walkL_seq ?_ | refine walkL_skip ?_ | refine walkL_block ?_ | (refine walkL_region fun K hK => ?_; simp (maxSteps := 4000000) only [go_sem]; refine hK _ ?_; clear hK K) | refine walkL_nil ?_ | refine walkL_ret ?_ | refine walkL_exit ?_ | refine blockA_here ?_ | refine blockA_other rfl ?_ | refine blockA_ret ?_ | refine blockA_normal ?_ | refine thenA_ret ?_ | refine thenA_exit ?_ | refine thenA_normal ?_)
            simp (maxSteps := 4000000) only [go_sem, hbad (by rw [hok]; rfl)]
          · repeat (first | refine walkL_seq ?_ | refine walkL_skip ?_ | refine walkL_block ?_ | (refine walkL_region fun K hK => ?_; simp (maxSteps := 4000000) only [go_sem, g1, g0, Sight.row, hq2, hw0, d21, d11, pointH]; (repeat (first | (refine ⟨_, .lent (hf := h113) (hd := rfl) (hr := rfl), ?_⟩; simp (maxSteps := 4000000) only [go_sem, g1, g0, Sight.row, hq2, hw0, d21, d11, pointH]) | (refine ⟨_, .lent (hf := h111) (hd := rfl) (hr := rfl), ?_⟩; simp (maxSteps := 4000000) only [go_sem, g1, g0, Sight.row, hq2, hw0, d21, d11, pointH]) | (refine ⟨_, .lent (hf := h115) (hd := rfl) (hr := rfl), ?_⟩; simp (maxSteps := 4000000) only [go_sem, g1, g0, Sight.row, hq2, hw0, d21, d11, pointH]) | (refine ⟨_, .given (hf := h113) (hd := rfl) (ha := rfl), ?_⟩; simp (maxSteps := 4000000) only [go_sem, g1, g0, Sight.row, hq2, hw0, d21, d11, pointH]) | (refine ⟨_, .given (hf := h111) (hd := rfl) (ha := rfl), ?_⟩; simp (maxSteps := 4000000) only [go_sem, g1, g0, Sight.row, hq2, hw0, d21, d11, pointH]) | (refine ⟨_, .given (hf := h115) (hd := rfl) (ha := rfl), ?_⟩; simp (maxSteps := 4000000) only [go_sem, g1, g0, Sight.row, hq2, hw0, d21, d11, pointH]))); refine hK _ ?_; clear hK K) | (refine walkL_drawn (by kernel_rfl) (by kernel_rfl) fun K hK => ?_; simp (maxSteps := 4000000) only [go_sem, g1, g0, Sight.row, hq2, hw0, d21, d11, pointH]; (repeat (first | (refine ⟨_, .fn (hf := h113) (hd := rfl) (hr := .inl rfl), ?_⟩; simp (maxSteps := 4000000) only [go_sem, g1, g0, Sight.row, hq2, hw0, d21, d11, pointH]) | (refine ⟨_, .fn (hf := h111) (hd := rfl) (hr := .inl rfl), ?_⟩; simp (maxSteps := 4000000) only [go_sem, g1, g0, Sight.row, hq2, hw0, d21, d11, pointH]) | (refine ⟨_, .fn (hf := h115) (hd := rfl) (hr := .inl rfl), ?_⟩; simp (maxSteps := 4000000) only [go_sem, g1, g0, Sight.row, hq2, hw0, d21, d11, pointH]))); refine ⟨by kernel_rfl, hK _ ?_⟩; clear hK K) | refine walkL_nil ?_ | refine walkL_ret ?_ | refine walkL_exit ?_ | refine blockA_here ?_ | refine blockA_other rfl ?_ | refine blockA_ret ?_ | refine blockA_normal ?_ | refine thenA_ret ?_ | refine thenA_exit ?_ | refine thenA_normal ?_)
            refine walkL_false rfl ?_
            repeat (first | refine walkL_seq ?_ | refine walkL_skip ?_ | refine walkL_block ?_ | (refine walkL_region fun K hK => ?_; simp (maxSteps := 4000000) only [go_sem, hw]; refine hK _ ?_; clear hK K) | refine walkL_nil ?_ | refine walkL_ret ?_ | refine walkL_exit ?_ | refine blockA_here ?_ | refine blockA_other rfl ?_ | refine blockA_ret ?_ | refine blockA_normal ?_ | refine thenA_ret ?_ | refine thenA_exit ?_ | refine thenA_normal ?_)
            refine ⟨rfl, i + 1, ?_, ⟨hlt, all_take_succ hs hall (by rw [hok]; rfl), ?_⟩, by omega⟩
            · rw [hp]
              refine weak_of [] ?_ ?_ rfl rfl <;> simp [lessT, lessM, lessB, AV.less]
            · rw [htk, List.map_append, List.nodup_append]
              exact ⟨hnd, by simp, fun a ha b hb e => hk (by
                have : b = s.hour := by simpa using hb
                rw [← this, ← e]; exact ha)⟩
    · have he : i = seen.length := by (have : ¬ i < seen.length := by simpa using hb); omega
      subst he
      rw [List.take_length] at hall hnd
      repeat (first | refine walkL_seq ?_ | refine walkL_skip ?_ | refine walkL_block ?_ | (refine walkL_region fun K hK => ?_; simp (maxSteps := 4000000) only [go_sem]; refine hK _ ?_; clear hK K) | refine walkL_nil ?_ | refine walkL_ret ?_ | refine walkL_exit ?_ | refine blockA_here ?_ | refine blockA_other rfl ?_ | refine blockA_ret ?_ | refine blockA_normal ?_ | refine thenA_ret ?_ | refine thenA_exit ?_ | refine thenA_normal ?_)
      simp (maxSteps := 4000000) only [go_sem, sightsB, hall, hnd]
end Go.Ab
