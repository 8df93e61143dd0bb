/- A walk engine over abstract states, and the contracts of the functions that the statement reaches: part 5. -/
import Derived.Test.YtgjnckiifffneaaWd
set_option linter.unusedVariables false
set_option linter.unusedSimpArgs false
set_option linter.unnecessarySimpa false
/- Another name for a block; drawn regions of which what is told is what differs. -/
namespace Go.Ab
open Go.RowKit
def St.rename (a b : Nat) (st : St) : St := match (st.m[a]? : Option (Option Blk)), (st.m[b]? : Option (Option Blk)) with
  | some (some x), some none => { t := st.t.map (AV.mapN (mv a b)), m := (((st.m.map (Option.map (Blk.mapN (mv a b)))).set a none).set b (some (x.mapN (mv a b)))) }
  | _, _ => st
section
variable {P : Program} {base : Own} {out : Own} {st st' : St} {μ : Pl} {tmps : Array Value} {w w' : World}
theorem z592 (a L : Nat) (st : St) : Weak st (st.rename a L) := by
  intro P base out μ tmps w h
  unfold St.rename
  split
  · rename_i b hb hL
    have hab : a ≠ L := fun e => by subst e; rw [hb] at hL; cases hL
    have hno : ∀ k, (μ k).isSome → k ≠ L := fun k hk e => by
      obtain ⟨b, hb⟩ := h.mem.dom k hk
      subst e; rw [hL] at hb; cases hb
    obtain ⟨μ', hμ'⟩ : ∃ μ' : Pl, μ' = fun k => if k = L then μ a else if k = a then none else μ k := ⟨_, rfl⟩
    have hs : ∀ k L', μ' k = some L' → (k = L ∧ μ a = some L') ∨ (k ≠ L ∧ k ≠ a ∧ μ k = some L') := by
      intro k L' hk
      rw [hμ'] at hk
      dsimp only at hk
      split at hk
      · rename_i e; exact .inl ⟨e, hk⟩
      · split at hk
        · cases hk
        · rename_i e1 e2; exact .inr ⟨e1, e2, hk⟩
    have hsub : ∀ b, ownOf out μ' b → ownOf out μ b := by
      rintro b (h | ⟨n, z, l, c, h⟩)
      · exact .inl h
      · rcases hs n _ h with ⟨_, h⟩ | ⟨_, _, h⟩
        · exact .inr ⟨a, z, l, c, h⟩
        · exact .inr ⟨n, z, l, c, h⟩
    have hg : Goes w (ownOf out μ) w (ownOf out μ') := fun b o v h1 h2 => ⟨fun hc => h1 (hsub b hc), h2⟩
    have hmv : ∀ n, (μ n).isSome → ∀ k, mv a L n = some k → μ' k = μ n := by
      intro n hn k hk
      have := hno n hn
      unfold mv at hk
      rw [hμ']
      split at hk
      · rename_i e; cases hk; subst e; simp
      · rename_i e
        cases hk
        simp only
        rw [if_neg this, if_neg e]
    have hLl : L < st.m.length := (List.getElem?_eq_some_iff.1 hL).1
    refine ⟨μ', ⟨by rw [h.size]; simp, fun i x v hx hv => ?_, ⟨fun k b' hk => ?_, fun k hk => ?_, fun k1 k2 b' z l c z' l' c' h1 h2 => ?_, fun k b' z l c hk => ?_⟩, h.hid.less hsub, h.out, h.le⟩, hsub⟩
    · simp only [List.getElem?_map, Option.map_eq_some_iff] at hx
      obtain ⟨y, hx, rfl⟩ := hx
      exact (h.tmp i y v hx hv).mapN (.inl hg) (fun n _ hn k hk => hmv n hn k hk)
    · dsimp only at hk
      rw [List.getElem?_set] at hk
      split at hk
      · rename_i e
        subst e
        split at hk
        · have hk := (Option.some.inj (Option.some.inj hk))
          subst hk
          exact BlkRel.mapN (n := a) (.inl hg) (by rw [hμ']; simp) hmv (fun _ _ _ _ _ => rfl) (h.mem.blk a b hb)
        · cases hk
      · rename_i hkL
        rw [List.getElem?_set] at hk
        split at hk
        · split at hk <;> cases hk
        · rename_i hka
          simp only [List.getElem?_map, Option.map_eq_some_iff] at hk
          obtain ⟨ob, hob, b0, rfl, rfl⟩ := hk
          exact BlkRel.mapN (.inl hg) (by rw [hμ']; simp only; rw [if_neg (Ne.symm hkL), if_neg (Ne.symm hka)]) hmv (fun _ _ _ _ _ => rfl) (h.mem.blk k b0 hob)
    · obtain ⟨L', hL'⟩ := Option.isSome_iff_exists.1 hk
      rcases hs k L' hL' with ⟨rfl, _⟩ | ⟨hkl, hka, hk'⟩
      · exact ⟨b.mapN (mv a k), by rw [List.getElem?_set_self (by simp; exact hLl)]⟩
      · obtain ⟨b', hb'⟩ := h.mem.dom k (by simp [hk'])
        refine ⟨b'.mapN (mv a L), ?_⟩
        rw [List.getElem?_set_ne (Ne.symm hkl), List.getElem?_set_ne (Ne.symm hka)]
        simp [hb']
    · rcases hs k1 _ h1 with ⟨rfl, e1⟩ | ⟨e1, e1a, e1b⟩
      · rcases hs k2 _ h2 with ⟨rfl, _⟩ | ⟨_, e2a, e2b⟩
        · rfl
        · exact absurd (h.mem.inj a k2 b' _ _ _ _ _ _ e1 e2b).symm e2a
      · rcases hs k2 _ h2 with ⟨rfl, e2⟩ | ⟨_, e2a, e2b⟩
        · exact absurd (h.mem.inj k1 a b' _ _ _ _ _ _ e1b e2) e1a
        · exact h.mem.inj k1 k2 b' _ _ _ _ _ _ e1b e2b
    · rcases hs k _ hk with ⟨_, e⟩ | ⟨_, _, e⟩
      · exact h.mem.base a b' z l c e
      · exact h.mem.base k b' z l c e
  · exact ⟨μ, h, fun _ hb => hb⟩
end
theorem z253 {P : Program} {rd : Option Nat} {n : Nat} {J : Env} {c : Code} {cs : List Code} {k : Option Nat} {st : St} {Q : Exit → Option Nat → St → Prop} (a b : Nat) (h : WalkL P rd n J (c :: cs) k (st.rename a b) Q) : WalkL P rd n J (c :: cs) k st Q :=
  z63 (z592 a b st) h
attribute [go_sem] St.rename
theorem z369 {P : Program} {rd : Option Nat} {n : Nat} {J : Env} {c : Code} {cs : List Code} {k : Option Nat} {st : St} {Q : Exit → Option Nat → St → Prop} (ds : List Nat) (ts : List (Nat × AV)) (ms : List (Nat × Option Blk)) (hw : Weak st (st.head ds ts ms)) (h : WalkL P rd n J (c :: cs) k (st.head ds ts ms) Q) :
    WalkL P rd n J (c :: cs) k st Q := z63 hw h
theorem z85 {P : Program} {rd : Option Nat} {n : Nat} {J : Env} {cs : List Code} {k : Option Nat} {st : St} {Q : Exit → Option Nat → St → Prop} {id : Nat} {ops : Array Oper} (ts : (Nat → Bool) → List (Nat × AV)) (ms : (Nat → Bool) → List (Nat × Option Blk)) (p : Nat) (hfol : P.follows .mixedOrders = true) (hback : backB ops = true)
    (hp : tailB ops p = true) (hps : p ≤ ops.size) (h0 : st.head [] (ts fun i => decide (i < p)) (ms fun i => decide (i < p)) = st) (hs : stepsC P (ops.toList.take p) (fun m => st.head [] (ts m) (ms m)) (ops.toList.take p) 0)
    {s1 : St} (hw : Weak (st.head [] (ts fun _ => false) (ms fun _ => false)) s1) (h : ∀ K : Option Nat → St → Prop, (∀ k s, WalkL P rd n J cs k s Q → K k s) → runE P 0 [] [] ops (ops.toList.drop p) k s1 K) : WalkL P rd n J (.region id ops true :: cs) k st Q :=
  z111 (l := 0) (items := []) (fun _ _ _ _ _ _ _ _ h => by simp at h) [] p hfol hback hp hps (fun m => st.head [] (ts m) (ms m)) h0 hs hw h
inductive SeqW (P : Program) (ops : Array Oper) : List Oper → St → St → Prop where
  | nil (s : St) : SeqW P ops [] s s
  | cons {o : Oper} {os : List Oper} {s s1 s' : St} (hd : dstOk o = true) (h : StepG P ops o s s1) (ht : SeqW P ops os s1 s') : SeqW P ops (o :: os) s s'
  | weak {os : List Oper} {s s1 s' : St} (hw : Weak s s1) (ht : SeqW P ops os s1 s') : SeqW P ops os s s'
theorem SeqW.of {P : Program} {ops : Array Oper} {os : List Oper} {s s' : St} (h : Seq P ops os s s') : SeqW P ops os s s' := by
  induction h with
  | nil s => exact .nil s
  | cons hd h _ ih => exact .cons hd h ih
theorem SeqW.append {P : Program} {ops : Array Oper} {os os2 : List Oper} {s s1 s2 : St} (h : SeqW P ops os s s1) (h2 : SeqW P ops os2 s1 s2) : SeqW P ops (os ++ os2) s s2 := by
  induction h with
  | nil s => exact h2
  | cons hd h _ ih => exact .cons hd h (ih h2)
  | weak hw _ ih => exact .weak hw (ih h2)
section
variable {P : Program} {base : Own} {out : Own} {st st' : St} {ops : Array Oper} {rd : Option Nat} {n : Nat} {Q : Exit → Act → World → Prop}
theorem z968 {os : List Oper} {st st' : St} (hs : SeqW P ops os st st') : ∀ (k : Nat) (μ : Pl) (tmps : Array Value) (w : World), (∀ i o, os[i]? = some o → ops[k + i]? = some o) → StRel P base out st μ tmps w → ∀ {ds : List Deferred},
    (∀ tmps' μ' w', StRel P base out st' μ' tmps' w' → KeepO base (ownOf out μ) w (ownOf out μ') w' → Same (opDsts os) tmps tmps' → Q .normal { tmps := tmps', defers := ds } w') →
    wpOpsIn (fence rd) n P ops Q (List.range' k os.length) { tmps := tmps, defers := ds } w := by
  induction hs with
  | nil s => exact fun k μ tmps w _ h ds hK => hK _ μ w h (KeepO.refl _ _ _) (Same.refl _ _)
  | @cons o os s s1 s' hd h1 ht ih =>
    intro k μ tmps w hos h ds hK
    rw [List.length_cons, List.range'_succ, wpOpsIn_cons]
    refine z119 h (by simpa using hos 0 o (by simp)) hd h1 (fun tmps' μ' w' h2 hB hS => ?_)
    exact ih (k + 1) μ' tmps' w' (fun i o' hi => by have := hos (i + 1) o' (by simpa using hi); rwa [show k + 1 + i = k + (i + 1) by omega]) h2
      (fun tmps2 μ2 w2 h3 hB2 hS2 => hK tmps2 μ2 w2 h3 (hB.trans hB2) (hS.cons hS2))
  | weak hw ht ih =>
    intro k μ tmps w hos h ds hK
    obtain ⟨μ3, h3, hsub⟩ := hw P base out μ tmps w h
    exact ih k μ3 tmps w hos h3 fun tmps2 μ2 w2 h4 hB2 hS2 => hK tmps2 μ2 w2 h4 ((KeepO.less hsub).trans hB2) hS2
end
theorem z473 {P : Program} {rd : Option Nat} {n : Nat} {J : Env} {k : Option Nat} {st s3 : St} {Q : Exit → Option Nat → St → Prop} {id : Nat} {ops : Array Oper} (hs : SeqW P ops ops.toList st s3) (hq : Q .normal k s3) : Walk P rd n J (.region id ops false) k st Q := fun B base out μ tmps w ds _ hst hJ hM => by
  refine wpIn_region ?_
  have := z968 (n := n) (rd := rd) (Q := Ends P J B (dsts (.region id ops false)) (ownOf out μ) tmps w Q) hs 0 μ tmps w (fun i o hi => by simpa using hi) hst (ds := ds) (fun tmps' μ' w' h3 hk hS => .step hJ h3 hk hS hM hq)
  rw [List.range_eq_range']
  simpa using this
theorem z197 {P : Program} {rd : Option Nat} {n : Nat} {J : Env} {cs : List Code} {k : Option Nat} {st : St} {Q : Exit → Option Nat → St → Prop} {id : Nat} {ops : Array Oper} (p : Nat)
    (h : ∀ K : St → Prop, (∀ s, WalkL P rd n J cs k s Q → K s) → runK P ops (ops.toList.take p) st fun s => ∃ s1, Weak s s1 ∧ runK P ops (ops.toList.drop p) s1 K) : WalkL P rd n J (.region id ops false :: cs) k st Q := by
  obtain ⟨s1, h1, s2, hw, h2⟩ := z203 _ _ _ (h _ fun _ h => h)
  obtain ⟨s3, h3, h4⟩ := z203 _ _ _ h2
  have hs : SeqW P ops ops.toList st s3 := by
    have := (SeqW.of h1).append (.weak hw (.of h3))
    rwa [List.take_append_drop] at this
  exact z473 hs h4
end Go.Ab
namespace Go.Ab
open Go.RowKit Go.Proofs
set_option maxHeartbeats 16000000
set_option maxRecDepth 20000
attribute [local irreducible] WalkL Walk
def plannerRow (k : Kitchen) : List AV := [.d (.sl (intRows k.allerg)), .d (.sl (batRows k.batches)), .d (.sl (dishRows k.dishes)), .d (.sl (dayRows k.days)), .mp 1]
theorem ten {L : List Int} (h : L.length = 10) : ∃ a b c d e f g i j l, L = [a, b, c, d, e, f, g, i, j, l] := by
  match L, h with
  | [a, b, c, d, e, f, g, i, j, l], _ => exact ⟨a, b, c, d, e, f, g, i, j, l, rfl⟩
def planR (v : PlanV) : AV := .agg [.d (.i v.1), .d (.sl (intRows v.2))]
def HasF40 (k : Kitchen) (r : Nat) : Prop := ∀ (l : List Int) (M : List EntK × Nat), l.length = k.batches.length → AmtOk l →
  FnG Try.prog 40 [.box (plannerRow k), .mp (some 11) (memK M.1) M.2] [0] [.box 0 0, .d (.agg (.i ((k.days.length - r : Nat) : Int) :: (pad10 l).map .i))] (planR (bestM k r l M).1)
    [.box (plannerRow k), .mp (some 11) (memK (bestM k r l M).2.1) (bestM k r l M).2.2]
def Pick : List (List Int) → List Int → Prop
  | [], [] => True
  | S :: gs, d :: t => d ∈ S ∧ Pick gs t
  | _, _ => False
theorem z709 : ∀ {SS : List (List Int)} {pre m : List Int}, m ∈ addL SS pre ↔ ∃ t, m = pre ++ t ∧ Pick SS t
  | [], pre, m => by
    simp only [addL, List.mem_singleton]
    constructor
    · rintro rfl; exact ⟨[], by simp, trivial⟩
    · rintro ⟨t, rfl, ht⟩
      cases t with
      | nil => simp
      | cons => exact ht.elim
  | S :: gs, pre, m => by
    simp only [addL, List.mem_flatMap, z709 (SS := gs)]
    constructor
    · rintro ⟨d, hd, t, rfl, ht⟩; exact ⟨d :: t, by simp, hd, ht⟩
    · rintro ⟨t, rfl, ht⟩
      cases t with
      | nil => exact ht.elim
      | cons d t => exact ⟨d, ht.1, t, by simp, ht.2⟩
theorem Pick.len : ∀ {SS : List (List Int)} {t : List Int}, Pick SS t → t.length = SS.length
  | [], [], _ => rfl
  | _ :: gs, _ :: t, h => by rw [List.length_cons, List.length_cons, Pick.len h.2]
  | [], _ :: _, h => h.elim
  | _ :: _, [], h => h.elim
theorem Pick.at : ∀ {SS : List (List Int)} {t : List Int}, Pick SS t → ∀ {g : Nat} {x : Int}, t[g]? = some x → ∃ S, SS[g]? = some S ∧ x ∈ S
  | [], [], _, g, x, h => by simp at h
  | S :: gs, d :: t, hp, g, x, h => by
    cases g with
    | zero => simp at h; subst h; exact ⟨S, rfl, hp.1⟩
    | succ g => simpa using Pick.at hp.2 (by simpa using h)
  | [], _ :: _, h, _, _, _ => h.elim
  | _ :: _, [], h, _, _, _ => h.elim
theorem z445 {k : Kitchen} (hg : KitGood k) {d : Nat} (hd : d < k.days.length) {m : List Int} (hm : m ∈ choicesL k d) : m.length = (k.days.getD d []).length ∧ DayOk k m (hiN k d) := by
  obtain ⟨t, e, hp⟩ := z709.1 hm
  rw [List.nil_append] at e
  subst e
  have hl : m.length = (k.days.getD d []).length := by rw [hp.len]; simp [suitDay]
  have h3 : (k.days.getD d []).length ≤ 3 := by
    rw [List.getD, List.getElem?_eq_getElem hd]
    exact (hg.groups _ (List.getElem_mem hd)).1
  refine ⟨hl, ⟨by omega, fun g hgl => ?_, fun g hgl => (z684 hg).rng d g hd (by omega)⟩⟩
  obtain ⟨x, hx⟩ : ∃ x, m[g]? = some x := ⟨_, List.getElem?_eq_getElem hgl⟩
  obtain ⟨S, hS, hxS⟩ := hp.at hx
  rw [suitDay, List.getElem?_map, Option.map_eq_some_iff] at hS
  obtain ⟨y, _, rfl⟩ := hS
  obtain ⟨n, rfl, hn, _⟩ := z908 hxS
  exact ⟨n, hx, hn⟩
theorem z1024 {c : List Int} (h : c.length ≤ 10) (x : AV) : (List.map (fun r => AV.d (r.getD 0 DV.any)) (List.take (min c.length 10) (intRows c)) ++ List.drop (1 + min c.length 10)
    [x, AV.d (.i 0), .d (.i 0), .d (.i 0), .d (.i 0), .d (.i 0), .d (.i 0), .d (.i 0), .d (.i 0), .d (.i 0), .d (.i 0)]) = (pad10 c).map fun n => AV.d (.i n) := by
  rw [Nat.min_eq_left h, Nat.add_comm, List.drop_succ_cons, List.take_of_length_le (by simp [intRows]),
    show [AV.d (.i 0), .d (.i 0), .d (.i 0), .d (.i 0), .d (.i 0), .d (.i 0), .d (.i 0), .d (.i 0), .d (.i 0), .d (.i 0)] = List.replicate 10 (AV.d (.i 0)) from rfl, List.drop_replicate, pad10, List.map_append, List.map_replicate, intRows, List.map_map]
  rfl
theorem z1038 (k : Kitchen) (hg : KitGood k) : HasF40 k 0 := fun l M hl ha => by
  obtain ⟨es, c⟩ := M
  have hb := hg.batches
  obtain ⟨x0, x1, x2, x3, x4, x5, x6, x7, x8, x9, hx⟩ := ten (z121 (l := l) (by omega))
  rw [hx, bestM, Nat.sub_zero]
  dsimp only [planR, List.map_cons, List.map_nil]
  have hq : ((k.days.length : Int) == (k.days.length : Int)) = true := by simp
  refine z58 124 Try.call40 Try.func40 rfl (by decide) [] [(0, 0)] (by simp only [List.length_cons, List.length_nil]; decide) (by kernel_rfl) fun J => ?_
  simp (maxSteps := 4000000) only [go_sem, St.startG, Try.ntmps40, Try.results40, List.map_cons, List.map_nil, List.range_succ,  plannerRow]
  repeat (first | refine nx ?_ | (refine z10 fun K hK => ?_; simp (maxSteps := 4000000) only [go_sem]; refine hK _ ?_; clear hK K))
  refine z17 (by kernel_rfl) (by kernel_rfl) fun K hK => ?_
  simp (maxSteps := 4000000) only [go_sem, hq]
  refine ⟨by kernel_rfl, hK _ ?_⟩
  clear hK K
  refine z12 rfl ?_
  repeat refine nx ?_
  refine z10 fun K hK => ?_
  simp (maxSteps := 4000000) only [go_sem]
  refine hK _ ?_
  clear hK K
  refine z369 [] [] [(4, some (.box [.d (.i 0), .d (.sl (intRows []))]))] ?_ ?_
  · simp (maxSteps := 4000000) only [go_sem]
    refine z13 [] ?_ ?_ rfl rfl <;> simp [lessT, lessM, lessB, AV.less, intRows]
  simp (maxSteps := 4000000) only [go_sem]
  repeat (first | refine nx ?_ | (refine z10 fun K hK => ?_; simp (maxSteps := 4000000) only [go_sem]; refine hK _ ?_; clear hK K))
  simp (maxSteps := 4000000) only [go_sem, retG, plannerRow]
theorem z1039 (k : Kitchen) (hg : KitGood k) (r : Nat) (hr : r + 1 ≤ k.days.length) (ih : HasF40 k r) : HasF40 k (r + 1) := fun l M hl ha => by
  obtain ⟨es, c⟩ := M
  have hb := hg.batches
  obtain ⟨x0, x1, x2, x3, x4, x5, x6, x7, x8, x9, hx⟩ := ten (z121 (l := l) (by omega))
  obtain ⟨d, hd⟩ : ∃ d, d = k.days.length - (r + 1) := ⟨_, rfl⟩
  have hdl : d < k.days.length := by omega
  rw [hx, bestM, ← hd]
  have hq : ((d : Int) == (k.days.length : Int)) = false := by simp; omega
  have e1 := z246 es (keyK d l) 0
  have hk : keyK d l = [(d : Int), x0, x1, x2, x3, x4, x5, x6, x7, x8, x9] := by rw [keyK, hx]
  dsimp only [List.map_cons, List.map_nil] at e1 ⊢
  have hsl : ([DV.i x0, .i x1, .i x2, .i x3, .i x4, .i x5, .i x6, .i x7, .i x8, .i x9].take k.batches.length).map (fun d => [d]) = intRows l := by
    have : (pad10 l).take k.batches.length = l := by rw [pad10, ← hl, List.take_left']; rfl
    rw [hx] at this
    have e : [DV.i x0, .i x1, .i x2, .i x3, .i x4, .i x5, .i x6, .i x7, .i x8, .i x9] = [x0, x1, x2, x3, x4, x5, x6, x7, x8, x9].map .i := rfl
    rw [e, ← List.map_take, this, intRows, List.map_map]
    rfl
  cases hlk : lookK es (keyK d l) 0 with
  | some p =>
    obtain ⟨j, v, bn⟩ := p
    rw [hlk] at e1
    rw [hk] at e1
    dsimp only [Option.map_some, planD, planR] at e1 ⊢
    refine z58 124 Try.call40 Try.func40 rfl (by decide) [] [(0, 0)] (by simp only [List.length_cons, List.length_nil]; decide) (by kernel_rfl) fun J => ?_
    simp (maxSteps := 4000000) only [go_sem, St.startG, Try.ntmps40, Try.results40, List.map_cons, List.map_nil, List.range_succ,  plannerRow]
    repeat (first | refine nx ?_ | (refine z10 fun K hK => ?_; simp (maxSteps := 4000000) only [go_sem]; refine hK _ ?_; clear hK K))
    refine z17 (by kernel_rfl) (by kernel_rfl) fun K hK => ?_
    simp (maxSteps := 4000000) only [go_sem, hq]
    refine ⟨by kernel_rfl, hK _ ?_⟩
    clear hK K
    refine z11 rfl ?_
    repeat (first | refine nx ?_ | (refine z10 fun K hK => ?_; simp (maxSteps := 4000000) only [go_sem]; refine hK _ ?_; clear hK K))
    refine z17 (by kernel_rfl) (by kernel_rfl) fun K hK => ?_
    simp (maxSteps := 4000000) only [go_sem, e1]
    refine ⟨by kernel_rfl, hK _ ?_⟩
    clear hK K
    repeat (first | refine nx ?_ | (refine z10 fun K hK => ?_; simp (maxSteps := 4000000) only [go_sem]; refine hK _ ?_; clear hK K))
    refine z12 rfl ?_
    repeat (first | refine nx ?_ | (refine z10 fun K hK => ?_; simp (maxSteps := 4000000) only [go_sem]; refine hK _ ?_; clear hK K))
    simp (maxSteps := 4000000) only [go_sem, retG, plannerRow]
  | none =>
    rw [hlk] at e1
    rw [hk] at e1
    dsimp only [Option.map_none, planR] at e1 ⊢
    refine z58 124 Try.call40 Try.func40 rfl (by decide) [] [(0, 0)] (by simp only [List.length_cons, List.length_nil]; decide) (by kernel_rfl) fun J => ?_
    simp (maxSteps := 4000000) only [go_sem, St.startG, Try.ntmps40, Try.results40, List.map_cons, List.map_nil, List.range_succ,  plannerRow]
    repeat (first | refine nx ?_ | (refine z10 fun K hK => ?_; simp (maxSteps := 4000000) only [go_sem]; refine hK _ ?_; clear hK K))
    refine z17 (by kernel_rfl) (by kernel_rfl) fun K hK => ?_
    simp (maxSteps := 4000000) only [go_sem, hq]
    refine ⟨by kernel_rfl, hK _ ?_⟩
    clear hK K
    refine z11 rfl ?_
    repeat (first | refine nx ?_ | (refine z10 fun K hK => ?_; simp (maxSteps := 4000000) only [go_sem]; refine hK _ ?_; clear hK K))
    refine z17 (by kernel_rfl) (by kernel_rfl) fun K hK => ?_
    simp (maxSteps := 4000000) only [go_sem, e1]
    refine ⟨by kernel_rfl, hK _ ?_⟩
    clear hK K
    repeat (first | refine nx ?_ | (refine z10 fun K hK => ?_; simp (maxSteps := 4000000) only [go_sem]; refine hK _ ?_; clear hK K))
    refine z11 rfl ?_
    refine z20 [3] ?_
    simp (maxSteps := 4000000) only [go_sem]
    have h41 : FnG Try.prog 41 [] [] (List.map AV.d [.agg k.cells]) _ _ := z1002 k hb
    have h77 := z1001 l (by omega)
    have h42 := z898 k hb (d : Int) l (ordK k) 0 hl ha (by decide)
    obtain ⟨c1, c2, c3⟩ := z42 (k := k) (day := (d : Int)) (w := 0) ha k.batches.length
    have c4 := z32 k (d : Int) l 0 k.batches.length
    obtain ⟨⟨C, w0⟩, hC⟩ : ∃ a, a = clrTo k (d : Int) l 0 k.batches.length := ⟨_, rfl⟩
    rw [← hC] at h42 c1 c2 c3 c4 ⊢
    dsimp only at c1 c2 c3 c4
    have h77c := z1001 C (by omega)
    have h78 := z1083 k d
    have h97 := z1066 k hg d hdl
    simp only [lardRow] at h41 h42
    rw [Kitchen.cells] at h41 h78
    repeat (first | refine nx ?_ | (refine z10 fun K hK => ?_; simp (maxSteps := 4000000) only [go_sem]; refine hK _ ?_; clear hK K))
    refine z10 fun K hK => ?_
    simp (maxSteps := 4000000) only [go_sem]
    refine ⟨_, .made (news := [41, 17, 18]) (hf := h41) (hd := rfl) (hn := by decide) (hl := rfl) (hnew := rfl) (hx := rfl), ?_⟩
    simp (maxSteps := 4000000) only [go_sem, List.map_cons, List.map_nil]
    refine hK _ ?_
    clear hK K
    repeat refine nx ?_
    have hbi : (k.batches.length : Int) ≤ 10 := by omega
    refine z17 (by kernel_rfl) (by kernel_rfl) fun K hK => ?_
    simp (maxSteps := 4000000) only [go_sem, hsl, hbi, Nat.sub_zero]
    refine ⟨_, .fnS (hdst := rfl) (hf := h77) (hd := rfl) (hr := .inl (z38 _)) (hfr := rfl), ?_⟩
    simp (maxSteps := 4000000) only [go_sem]
    refine ⟨by kernel_rfl, hK _ ?_⟩
    clear hK K
    repeat refine nx ?_
    refine z10 fun K hK => ?_
    simp (maxSteps := 4000000) only [go_sem]
    refine ⟨_, .own (ns := [41, 52, 18]) (news := []) (bads := [52, 18]) (rd := []) (hf := h42) (hnd := by decide) (hl0 := rfl) (hl1 := rfl) (hm := by repeat (first | exact trivial | refine And.intro ?_ ?_ | rfl)) (hnew := rfl) (hla := rfl) (ha := z26 (by repeat (first | exact trivial | refine And.intro ?_ ?_ | exact z27 rfl | exact z22 rfl rfl))) (hrd := rfl) (hsh := z23 _) (hb := rfl) (hfl := .inl rfl), ?_⟩
    simp (maxSteps := 4000000) only [go_sem, List.map_cons, List.map_nil]
    refine hK _ ?_
    clear hK K
    repeat refine nx ?_
    refine z17 (by kernel_rfl) (by kernel_rfl) fun K hK => ?_
    simp (maxSteps := 4000000) only [go_sem]
    refine ⟨by kernel_rfl, hK _ ?_⟩
    clear hK K
    repeat refine nx ?_
    refine z17 (by kernel_rfl) (by kernel_rfl) fun K hK => ?_
    simp (maxSteps := 4000000) only [go_sem]
    refine ⟨_, .fn (hf := h78) (hd := rfl) (hr := .inr rfl), ?_⟩
    simp (maxSteps := 4000000) only [go_sem]
    refine ⟨by kernel_rfl, hK _ ?_⟩
    clear hK K
    repeat (first | refine nx ?_ | (refine z10 fun K hK => ?_; simp (maxSteps := 4000000) only [go_sem]; refine hK _ ?_; clear hK K))
    refine z64 [14, 15, 16, 17, 19, 20, 21, 22, 23, 24, 25, 26, 27, 28, 29, 30, 31, 32, 33, 34, 35, 36, 37, 38, 39, 40, 42, 43, 44, 45, 46, 47, 48, 49, 50, 51, 53, 54, 55, 56, 57, 58, 59, 60, 61, 62, 63, 64, 65, 66, 67, 68, 69, 70, 71, 72] ?_ ?_
    · simp (maxSteps := 4000000) only [go_sem]
      refine z13 [] ?_ ?_ rfl rfl <;> simp [lessT, lessM, lessB, AV.less]
    simp (maxSteps := 4000000) only [go_sem]
    obtain ⟨stp, hstp⟩ : ∃ stp, stp = bestS k d (C, w0) (bestM k r) := ⟨_, rfl⟩
    rw [← hstp]
    obtain ⟨N, hN⟩ : ∃ N, N = choicesL k d := ⟨_, rfl⟩
    rw [← hN] at h97 ⊢
    rw [Kitchen.cells] at h97
    refine z476 [] (m0 := []) rfl (by decide) rfl h97 (by intro row hr; obtain ⟨m, _, rfl⟩ := List.mem_map.1 hr; rfl) (fun _ => []) (fun (a : PlanV × (List EntK × Nat)) => [(7, some (.box [.d (.i a.1.1), .d (.sl (intRows a.1.2))])), (41, some (.box [.d (.sl (intRows k.allerg)), .d (.sl (batRows k.batches)), .d (.sl (dishRows k.dishes)), .d (.sl (dayRows k.days)), .undef, .own 18, .d (.i w0)])), (125, some (.mp (some 11) (memK a.2.1) a.2.2))])
      (fun i a => a = (N.take i).foldl stp ((1099511627776, []), (es, c))) (fun _ _ => False) ((1099511627776, []), (es, c)) ?_ rfl ?_ ?_ (fun _ _ h => h.elim)
    · simp (maxSteps := 4000000) only [go_sem]
      refine z13 [] ?_ ?_ rfl rfl <;> simp [lessT, lessM, lessB, AV.less, intRows]
    · rintro X W i ⟨⟨bw, bm⟩, es1, c1'⟩ row hi ha l2 m2
      dsimp only
      rw [menuRows, List.getElem?_map, Option.map_eq_some_iff] at hi
      obtain ⟨m, hm, rfl⟩ := hi
      simp (maxSteps := 4000000) only [go_sem]
      repeat (first | refine nx ?_ | (refine z10 fun K hK => ?_; simp (maxSteps := 4000000) only [go_sem]; refine hK _ ?_; clear hK K))
      refine z17 (by kernel_rfl) (by kernel_rfl) fun K hK => ?_
      simp (maxSteps := 4000000) only [go_sem]
      refine ⟨_, .fnS (hdst := rfl) (hf := h77c) (hd := rfl) (hr := .inl (z38 _)) (hfr := rfl), ?_⟩
      simp (maxSteps := 4000000) only [go_sem]
      refine ⟨by kernel_rfl, hK _ ?_⟩
      clear hK K
      repeat refine nx ?_
      obtain ⟨hml, hday⟩ := z445 hg hdl (by rw [← hN]; exact List.mem_of_getElem? hm)
      have h44 := (z897 k hg m (hiN k d) 79 [.ptr [.ptr (k.cells ++ [.any]) 0] 0, .ptr (.i (d : Int) :: [.i x0, .i x1, .i x2, .i x3, .i x4, .i x5, .i x6, .i x7, .i x8, .i x9]) 0] hday (fun j hj => z1082 k d j hdl (by omega) _))
      have h43 := z958 k (needL k m (hiN k d)) C (ordK k) w0 (by omega) hb c1 (z48 hg hday) (by rw [z43]; exact hg.goods.2) (fun x hx => z41 hx) (by rw [z88]; exact hb)
      rw [z43] at h43
      rw [Kitchen.cells] at h44
      dsimp only [List.cons_append, List.nil_append] at h44
      have hnx : (N.take (i + 1)).foldl stp ((1099511627776, []), (es, c)) = stp ((bw, bm), (es1, c1')) m := by rw [z73 _ _ _ _ _ hm, ← ha]
      obtain ⟨NN, hNN⟩ : ∃ NN, NN = needL k m (hiN k d) := ⟨_, rfl⟩
      rw [← hNN] at h44 h43
      have hsm : stp ((bw, bm), (es1, c1')) m = match takeTo k (ordK k) NN C k.allerg.length with
        | none => ((bw, bm), (es1, c1'))
        | some l => (if wr (w0 + (bestM k r l (es1, c1')).1.1) < bw then (wr (w0 + (bestM k r l (es1, c1')).1.1), m) else (bw, bm), (bestM k r l (es1, c1')).2) := by rw [hstp, hNN]; rfl
      rw [hsm] at hnx
      cases htk : takeTo k (ordK k) NN C k.allerg.length with
      | none =>
        rw [htk] at h43 hnx
        simp only [takeBlks, lardRow, Option.isSome_none] at h43
        refine z85 (fun b => [(80, bif b 0 then .undef else .box 41 0), (81, bif b 1 then .undef else .box 124 0), (82, bif b 2 then .undef else .box 124 0), (83, bif b 3 then .undef else .box 124 0),
          (84, bif b 4 then .undef else .agg [.d (.sl (intRows k.allerg)), .d (.sl (batRows k.batches)), .d (.sl (dishRows k.dishes)), .d (.sl (dayRows k.days))]), (85, bif b 5 then .undef else .d (.sl (intRows m))),
          (86, bif b 6 then .undef else .fn 79 [.box 2 0, .d (.ptr [.i (d : Int), .i x0, .i x1, .i x2, .i x3, .i x4, .i x5, .i x6, .i x7, .i x8, .i x9] 0)]), (87, bif b 7 then .undef else .own 87)])
          (fun b => [(87, bif b 7 then none else some (.arr 3 1 (intRows NN)))]) 8 (by kernel_rfl) (by kernel_rfl) (by kernel_rfl) (by decide) ?_ ?_ (z84 [87] _) ?_
        · simp (maxSteps := 4000000) only [go_sem]
        · refine ⟨?_, ?_, ?_, ?_, ?_, ?_, ?_, ?_, trivial⟩
          all_goals
            intro b hbm hdm _
            simp only [depsM, Region.binds, true_and, and_true, Nat.zero_add, Nat.reduceAdd, reduceCtorEq, forall_const] at hdm
            refine ⟨rfl, rfl, ?_⟩
            simp (maxSteps := 4000000) only [go_sem, hbm, hdm]
          · refine ⟨_, .lentS (hdst := rfl) (hf := h44) (hd := rfl) (hr := z38 _) (hfr := rfl), ?_⟩
            simp (maxSteps := 4000000) only [go_sem, hbm, hdm]
        · intro K hK
          simp (maxSteps := 4000000) only [go_sem]
          refine ⟨_, .own (ns := [41, 77, 18]) (news := []) (bads := [77, 18]) (rd := []) (hf := h43) (hnd := by decide) (hl0 := rfl) (hl1 := rfl) (hm := by repeat (first | exact trivial | refine And.intro ?_ ?_ | rfl)) (hnew := rfl) (hla := rfl) (ha := z26 (by repeat (first | exact trivial | refine And.intro ?_ ?_ | exact z27 rfl | exact z22 rfl rfl))) (hrd := rfl) (hsh := z23 _) (hb := rfl) (hfl := .inl rfl), ?_⟩
          simp (maxSteps := 4000000) only [go_sem, List.map_cons, List.map_nil]
          refine hK _ _ ?_
          clear hK K
          repeat refine nx ?_
          refine z12 rfl ?_
          repeat (first | refine nx ?_ | (refine z10 fun K hK => ?_; simp (maxSteps := 4000000) only [go_sem]; refine hK _ ?_; clear hK K))
          refine ⟨rfl, _, ?_, hnx.symm⟩
          simp (maxSteps := 4000000) only [go_sem]
          refine z13 [] ?_ ?_ rfl rfl <;> simp [lessT, lessM, lessB, AV.less]
      | some c' =>
        rw [htk] at h43 hnx
        simp only [takeBlks, lardRow, Option.isSome_some] at h43
        refine z85 (fun b => [(80, bif b 0 then .undef else .box 41 0), (81, bif b 1 then .undef else .box 124 0), (82, bif b 2 then .undef else .box 124 0), (83, bif b 3 then .undef else .box 124 0),
          (84, bif b 4 then .undef else .agg [.d (.sl (intRows k.allerg)), .d (.sl (batRows k.batches)), .d (.sl (dishRows k.dishes)), .d (.sl (dayRows k.days))]), (85, bif b 5 then .undef else .d (.sl (intRows m))),
          (86, bif b 6 then .undef else .fn 79 [.box 2 0, .d (.ptr [.i (d : Int), .i x0, .i x1, .i x2, .i x3, .i x4, .i x5, .i x6, .i x7, .i x8, .i x9] 0)]), (87, bif b 7 then .undef else .own 87)])
          (fun b => [(87, bif b 7 then none else some (.arr 3 1 (intRows NN)))]) 8 (by kernel_rfl) (by kernel_rfl) (by kernel_rfl) (by decide) ?_ ?_ (z84 [87] _) ?_
        · simp (maxSteps := 4000000) only [go_sem]
        · refine ⟨?_, ?_, ?_, ?_, ?_, ?_, ?_, ?_, trivial⟩
          all_goals
            intro b hbm hdm _
            simp only [depsM, Region.binds, true_and, and_true, Nat.zero_add, Nat.reduceAdd, reduceCtorEq, forall_const] at hdm
            refine ⟨rfl, rfl, ?_⟩
            simp (maxSteps := 4000000) only [go_sem, hbm, hdm]
          · refine ⟨_, .lentS (hdst := rfl) (hf := h44) (hd := rfl) (hr := z38 _) (hfr := rfl), ?_⟩
            simp (maxSteps := 4000000) only [go_sem, hbm, hdm]
        · intro K hK
          simp (maxSteps := 4000000) only [go_sem]
          refine ⟨_, .own (ns := [41, 77, 18]) (news := [6]) (bads := [77, 18]) (rd := []) (hf := h43) (hnd := by decide) (hl0 := rfl) (hl1 := rfl) (hm := by repeat (first | exact trivial | refine And.intro ?_ ?_ | rfl)) (hnew := rfl) (hla := rfl) (ha := z26 (by repeat (first | exact trivial | refine And.intro ?_ ?_ | exact z27 rfl | exact z22 rfl rfl))) (hrd := rfl) (hsh := z23 _) (hb := rfl) (hfl := .inl rfl), ?_⟩
          simp (maxSteps := 4000000) only [go_sem, List.map_cons, List.map_nil]
          refine hK _ _ ?_
          clear hK K
          repeat refine nx ?_
          refine z11 rfl ?_
          obtain ⟨t1, t2⟩ := z99 (k := k) (o := ordK k) (needs := NN) c1 (fun x hx => by rw [hNN] at hx; exact (z48 hg hday x hx).1) k.allerg.length c' htk
          have hcl : c'.length = k.batches.length := by omega
          have ihc := ih c' (es1, c1') hcl t1
          have hdr : k.days.length - r = d + 1 := by omega
          rw [hdr] at ihc
          obtain ⟨y0, y1, y2, y3, y4, y5, y6, y7, y8, y9, hy⟩ := ten (z121 (l := c') (by omega))
          rw [hy] at ihc
          dsimp only at hnx
          obtain ⟨⟨pw, pm⟩, es2, c2', hbm⟩ : ∃ p es2 c2', bestM k r c' (es1, c1') = (p, es2, c2') := ⟨_, _, _, rfl⟩
          rw [hbm] at ihc hnx
          dsimp only [planR, List.map_cons, List.map_nil] at ihc hnx
          rw [plannerRow] at ihc
          have hw1 : IntKind.i64.wrap ((d : Int) + 1) = ((d + 1 : Nat) : Int) := by have := hg.days; rw [z16 (by omega)]; simp
          have hi1 : headIs 1 (intRows c') = true := by cases c' <;> rfl
          repeat (first | refine nx ?_ | (refine z10 fun K hK => ?_; simp (maxSteps := 4000000) only [go_sem, hw1]; refine hK _ ?_; clear hK K))
          have hcp := z1024 (c := c') (by omega) (.d (.i ((d + 1 : Nat) : Int)))
          rw [hy] at hcp
          simp only [List.map_cons, List.map_nil] at hcp
          refine z17 (by kernel_rfl) (by kernel_rfl) fun K hK => ?_
          simp (maxSteps := 4000000) only [go_sem, hi1, z19, hcp]
          refine ⟨by kernel_rfl, hK _ ?_⟩
          clear hK K
          repeat refine nx ?_
          refine z10 fun K hK => ?_
          simp (maxSteps := 4000000) only [go_sem]
          refine ⟨_, .own (ns := [124, 125]) (news := []) (bads := [125]) (rd := []) (hf := ihc) (hnd := by decide) (hl0 := rfl) (hl1 := rfl) (hm := by repeat (first | exact trivial | refine And.intro ?_ ?_ | rfl)) (hnew := rfl) (hla := rfl) (ha := z26 (by repeat (first | exact trivial | refine And.intro ?_ ?_ | exact z27 rfl | exact z22 rfl rfl))) (hrd := rfl) (hsh := z23 _) (hb := rfl) (hfl := .inl rfl), ?_⟩
          simp (maxSteps := 4000000) only [go_sem, List.map_cons, List.map_nil]
          refine hK _ ?_
          clear hK K
          by_cases hlt : wr (w0 + pw) < bw
          · have hd2 : decide (wr (w0 + pw) < bw) = true := decide_eq_true hlt
            rw [if_pos hlt] at hnx
            rw [wr] at hd2 hnx
            repeat (first | refine z12 rfl ?_ | refine z11 rfl ?_ | refine nx ?_ | (refine z10 fun K hK => ?_; simp (maxSteps := 4000000) only [go_sem, hd2]; refine hK _ ?_; clear hK K))
            refine ⟨rfl, _, ?_, hnx.symm⟩
            simp (maxSteps := 4000000) only [go_sem]
            refine z13 [] ?_ ?_ rfl rfl <;> simp [lessT, lessM, lessB, AV.less]
          · have hd2 : decide (wr (w0 + pw) < bw) = false := decide_eq_false hlt
            rw [if_neg hlt] at hnx
            rw [wr] at hd2
            repeat (first | refine z12 rfl ?_ | refine z11 rfl ?_ | refine nx ?_ | (refine z10 fun K hK => ?_; simp (maxSteps := 4000000) only [go_sem, hd2]; refine hK _ ?_; clear hK K))
            refine ⟨rfl, _, ?_, hnx.symm⟩
            simp (maxSteps := 4000000) only [go_sem]
            refine z13 [] ?_ ?_ rfl rfl <;> simp [lessT, lessM, lessB, AV.less]
    · rintro ⟨⟨bw, bm⟩, es1, c1'⟩ ha
      rw [z61, List.take_length] at ha
      rw [← ha]
      dsimp only
      simp (maxSteps := 4000000) only [go_sem]
      repeat refine nx ?_
      have e5 := z246 es1 (keyK d l) 0
      rw [hk] at e5 ⊢
      refine z85 (fun b => [(117, bif b 0 then .undef else .box 124 0), (118, bif b 1 then .undef else .box 124 0), (119, bif b 2 then .undef else .box 124 4), (120, bif b 3 then .undef else .mp 125),
          (121, bif b 4 then .undef else .d (.agg [.i (d : Int), .i x0, .i x1, .i x2, .i x3, .i x4, .i x5, .i x6, .i x7, .i x8, .i x9])), (122, bif b 5 then .undef else .agg [.d (.i bw), .d (.sl (intRows bm))])])
          (fun b => []) 6 (by kernel_rfl) (by kernel_rfl) (by kernel_rfl) (by decide) ?_ ?_ (Weak.refl _) ?_
      · simp (maxSteps := 4000000) only [go_sem]
      · refine ⟨?_, ?_, ?_, ?_, ?_, ?_, trivial⟩
        all_goals
          intro b hbm hdm _
          simp only [depsM, Region.binds, true_and, and_true, Nat.zero_add, Nat.reduceAdd, reduceCtorEq, forall_const] at hdm
          refine ⟨rfl, rfl, ?_⟩
          simp (maxSteps := 4000000) only [go_sem, hbm, hdm]
      · intro K hK
        cases hlk2 : lookK es1 [(d : Int), x0, x1, x2, x3, x4, x5, x6, x7, x8, x9] 0 with
        | none =>
          rw [hlk2] at e5
          dsimp only [Option.map_none] at e5
          rw [z518 (i := 0) (bw, bm) c1' hlk2] at hK
          dsimp only at hK
          rw [z862, planD] at hK
          simp (maxSteps := 4000000) only [go_sem, e5]
          refine hK _ _ ?_
          clear hK K
          repeat (first | refine nx ?_ | (refine z10 fun K hK => ?_; simp (maxSteps := 4000000) only [go_sem]; refine hK _ ?_; clear hK K))
          simp (maxSteps := 4000000) only [go_sem, retG, plannerRow, planR]
        | some p =>
          obtain ⟨j, v, bn⟩ := p
          rw [hlk2] at e5
          dsimp only [Option.map_some] at e5
          have e4 := (z517 (i := 0) (bw, bm) c1' hlk2).2
          rw [Nat.sub_zero] at e4
          rw [e4] at hK
          dsimp only at hK
          rw [z934, planD] at hK
          simp (maxSteps := 4000000) only [go_sem, e5]
          refine hK _ _ ?_
          clear hK K
          repeat (first | refine nx ?_ | (refine z10 fun K hK => ?_; simp (maxSteps := 4000000) only [go_sem]; refine hK _ ?_; clear hK K))
          simp (maxSteps := 4000000) only [go_sem, retG, plannerRow, planR]
theorem z1040 (k : Kitchen) (hg : KitGood k) : ∀ r, r ≤ k.days.length → HasF40 k r
  | 0, _ => z1038 k hg
  | r + 1, h => z1039 k hg r h (z1040 k hg r (by omega))
end Go.Ab
namespace Go.Ab
open Go.RowKit Go.Proofs
def bestSN (k : Kitchen) (d : Nat) (c : List Int × Int) (rec : List Int → PlanV) (a : PlanV) (m : List Int) : PlanV :=
  match takeD k d m c.1 with
  | none => a
  | some l => if c.2 + (rec l).1 < a.1 then (c.2 + (rec l).1, m) else a
def bestN (k : Kitchen) : Nat → List Int → PlanV
  | 0, _ => (0, [])
  | r + 1, l => (choicesL k (k.days.length - (r + 1))).foldl (bestSN k (k.days.length - (r + 1)) (clrTo k ((k.days.length - (r + 1) : Nat) : Int) l 0 k.batches.length) (bestN k r)) (1099511627776, [])
def lookT (es : List EntK) (k : List Int) : Option PlanV := (lookK es k 0).map (·.2.1)
theorem z545 : ∀ (es : List EntK) (k : List Int) (i j : Nat), (lookK es k i).map (·.2.1) = (lookK es k j).map (·.2.1)
  | [], _, _, _ => rfl
  | e :: es, k, i, j => by
    rw [lookK, lookK]
    split
    · rfl
    · exact z545 es k _ _
theorem z128 (e : EntK) (es : List EntK) (k : List Int) : lookT (e :: es) k = if k = e.1 then some e.2.1 else lookT es k := by
  rw [lookT, lookK]
  split
  · rfl
  · exact z545 es k _ _
theorem z544 : ∀ (es : List EntK) (k k' : List Int) (w : PlanV) (c : Nat), lookT (putK es k w c).1 k' = if k' = k then some w else lookT es k'
  | [], k, k', w, c => by
    rw [putK, z128]
  | e :: es, k, k', w, c => by
    rw [putK]
    by_cases hk : k = e.1
    · rw [if_pos hk]
      dsimp only
      rw [z128, z128]
      by_cases h1 : k' = k
      · rw [if_pos h1, if_pos h1]
      · rw [if_neg h1, if_neg h1, if_neg (by rw [← hk]; exact h1)]
    · rw [if_neg hk]
      dsimp only
      rw [z128, z128, z544 es k k' w c]
      by_cases h1 : k' = k
      · rw [if_pos h1, if_pos h1, if_neg (by rw [h1]; exact hk)]
      · rw [if_neg h1, if_neg h1]
theorem z848 {a b : List Int} (h : a.length = b.length) (e : pad10 a = pad10 b) : a = b := by
  have := congrArg (List.take a.length) e
  rwa [pad10, pad10, List.take_left', h, List.take_left'] at this <;> first | rfl | exact h.symm
theorem z940 {d e : Nat} {a b : List Int} (h : a.length = b.length) (q : keyK d a = keyK e b) : d = e ∧ a = b := by
  rw [keyK, keyK, List.cons.injEq] at q
  exact ⟨by omega, z848 h q.2⟩
def GoodT (k : Kitchen) (es : List EntK) : Prop := ∀ (d : Nat) (l : List Int) v, d ≤ k.days.length → l.length = k.batches.length → lookT es (keyK d l) = some v → v = bestN k (k.days.length - d) l
theorem z876 (k : Kitchen) : GoodT k [] := fun d l v _ _ h => by cases h
theorem z875 {k : Kitchen} {es : List EntK} (h : GoodT k es) {d : Nat} {l : List Int} (hl : l.length = k.batches.length) {v : PlanV} (hv : v = bestN k (k.days.length - d) l) (c : Nat) : GoodT k (putK es (keyK d l) v c).1 := fun d' l' v' hd' hl' hg => by
  rw [z544] at hg
  split at hg
  · rename_i e
    obtain ⟨rfl, rfl⟩ := z940 (by omega) e
    cases hg
    exact hv
  · exact h d' l' v' hd' hl' hg
theorem z571 {α β : Type} {f : α → β → α} {p : α → Prop} : ∀ (N : List β) {a : α}, p a → (∀ a m, m ∈ N → p a → p (f a m)) → p (N.foldl f a)
  | [], _, h, _ => h
  | m :: N, _, h, hs => z571 N (hs _ m (by simp) h) fun a x hx => hs a x (by simp [hx])
theorem z400 {k : Kitchen} (hg : KitGood k) {d : Nat} (hd : d < k.days.length) {m l l' : List Int} (hm : DayOk k m (hiN k d)) (ha : AmtOk l) (h : takeD k d m l = some l') : AmtOk l' ∧ l'.length = l.length :=
  z99 ha (fun x hx => (z48 hg hm x hx).1) _ _ h
def clr0 (k : Kitchen) (d : Nat) (l : List Int) : List Int × Int := clrTo k (d : Int) l 0 k.batches.length
theorem z694 {k : Kitchen} (hg : KitGood k) {d : Nat} {l : List Int} (hl : l.length = k.batches.length) (ha : AmtOk l) : AmtOk (clr0 k d l).1 ∧ (clr0 k d l).1.length = k.batches.length ∧ 0 ≤ (clr0 k d l).2 ∧ (clr0 k d l).2 ≤ 144000000 := by
  obtain ⟨h1, h2, h3⟩ := z42 (k := k) (day := (d : Int)) (w := 0) ha k.batches.length
  have := hg.batches
  refine ⟨h1, by rw [clr0, z32, hl], h2, ?_⟩
  unfold clr0
  omega
theorem z467 {k : Kitchen} (hg : KitGood k) : ∀ r, r ≤ k.days.length → ∀ l : List Int, l.length = k.batches.length → AmtOk l →
    (0 ≤ (bestN k r l).1 ∧ (bestN k r l).1 ≤ 1099511627776) ∧ (bestN k r l = (1099511627776, []) ∨ r = 0 ∨ (bestN k r l).2 ∈ choicesL k (k.days.length - r))
  | 0, _, l, _, _ => by simp [bestN]
  | r + 1, hr, l, hl, ha => by
    rw [bestN]
    obtain ⟨d, hd⟩ : ∃ d, d = k.days.length - (r + 1) := ⟨_, rfl⟩
    rw [← hd]
    change (0 ≤ ((choicesL k d).foldl (bestSN k d (clr0 k d l) (bestN k r)) (1099511627776, [])).1 ∧ _) ∧ (((choicesL k d).foldl (bestSN k d (clr0 k d l) (bestN k r)) (1099511627776, [])) = _ ∨ _)
    obtain ⟨c1, c2, c3, c4⟩ := z694 hg (d := d) hl ha
    refine z571 (p := fun a : PlanV => (0 ≤ a.1 ∧ a.1 ≤ 1099511627776) ∧ (a = (1099511627776, []) ∨ r + 1 = 0 ∨ a.2 ∈ choicesL k d)) (choicesL k d) ⟨by decide, .inl rfl⟩ fun a m hm h => ?_
    unfold bestSN
    split
    · exact h
    · rename_i l' hl'
      obtain ⟨t1, t2⟩ := z400 hg (by omega) (z445 hg (by omega) hm).2 c1 hl'
      have hb := (z467 hg r (by omega) l' (by omega) t1).1
      split
      · exact ⟨by dsimp only; omega, .inr (.inr hm)⟩
      · exact h
theorem z249 {k : Kitchen} (hg : KitGood k) : ∀ r, r ≤ k.days.length → ∀ l : List Int, l.length = k.batches.length → AmtOk l → ∀ M : List EntK × Nat, GoodT k M.1 → (bestM k r l M).1 = bestN k r l ∧ GoodT k (bestM k r l M).2.1
  | 0, _, l, _, _, M, h => ⟨rfl, h⟩
  | r + 1, hr, l, hl, ha, M, h => by
    obtain ⟨d, hd⟩ : ∃ d, d = k.days.length - (r + 1) := ⟨_, rfl⟩
    have hrd : k.days.length - d = r + 1 := by omega
    have hN : bestN k (r + 1) l = (choicesL k d).foldl (bestSN k d (clr0 k d l) (bestN k r)) (1099511627776, []) := by rw [bestN, ← hd]; rfl
    rw [bestM, ← hd]
    cases hlk : lookK M.1 (keyK d l) 0 with
    | some p =>
      obtain ⟨j, v, bn⟩ := p
      dsimp only
      refine ⟨?_, h⟩
      rw [← hrd]
      exact h d l v (by omega) hl (by rw [lookT, hlk]; rfl)
    | none =>
      dsimp only
      change ((choicesL k d).foldl (bestS k d (clr0 k d l) (bestM k r)) ((1099511627776, []), M)).1 = _ ∧ GoodT k (putK ((choicesL k d).foldl (bestS k d (clr0 k d l) (bestM k r)) ((1099511627776, []), M)).2.1 (keyK d l) ((choicesL k d).foldl (bestS k d (clr0 k d l) (bestM k r)) ((1099511627776, []), M)).1 _).1
      have key : ∀ (N : List (List Int)) (a : PlanV) (M : List EntK × Nat), (∀ m ∈ N, m ∈ choicesL k d) → GoodT k M.1 → (0 ≤ a.1 ∧ a.1 ≤ 1099511627776) →
          (N.foldl (bestS k d (clr0 k d l) (bestM k r)) (a, M)).1 = N.foldl (bestSN k d (clr0 k d l) (bestN k r)) a ∧ GoodT k (N.foldl (bestS k d (clr0 k d l) (bestM k r)) (a, M)).2.1 := by
        intro N
        induction N with
        | nil => intro a M _ hM _; exact ⟨rfl, hM⟩
        | cons m N ih =>
          intro a M hm hM ha2
          rw [List.foldl_cons, List.foldl_cons]
          obtain ⟨c1, c2, c3, c4⟩ := z694 hg (d := d) hl ha
          have hmd := hm m (by simp)
          have ih := fun a M => ih a M fun x hx => hm x (by simp [hx])
          cases ht : takeD k d m (clr0 k d l).1 with
          | none =>
            have e1 : bestS k d (clr0 k d l) (bestM k r) (a, M) m = (a, M) := by rw [bestS, ht]
            have e2 : bestSN k d (clr0 k d l) (bestN k r) a m = a := by rw [bestSN, ht]
            rw [e1, e2]
            exact ih a M hM ha2
          | some l' =>
            obtain ⟨t1, t2⟩ := z400 hg (by omega) (z445 hg (by omega) hmd).2 c1 ht
            obtain ⟨b1, b2⟩ := z249 hg r (by omega) l' (by omega) t1 M hM
            have hb := (z467 hg r (by omega) l' (by omega) t1).1
            have hw : wr ((clr0 k d l).2 + (bestN k r l').1) = (clr0 k d l).2 + (bestN k r l').1 := z16 (by omega)
            have e1 : bestS k d (clr0 k d l) (bestM k r) (a, M) m = (if (clr0 k d l).2 + (bestN k r l').1 < a.1 then ((clr0 k d l).2 + (bestN k r l').1, m) else a, (bestM k r l' M).2) := by
              rw [bestS, ht]
              dsimp only
              rw [b1, hw]
            have e2 : bestSN k d (clr0 k d l) (bestN k r) a m = if (clr0 k d l).2 + (bestN k r l').1 < a.1 then ((clr0 k d l).2 + (bestN k r l').1, m) else a := by rw [bestSN, ht]
            rw [e1, e2]
            refine ih _ _ b2 ?_
            split
            · dsimp only; omega
            · exact ha2
      obtain ⟨k1, k2⟩ := key (choicesL k d) (1099511627776, []) M (fun _ h => h) h (by decide)
      rw [k1, hN]
      exact ⟨rfl, z875 k2 hl (by rw [hrd, hN]) _⟩
end Go.Ab
namespace Go.Ab
open Go.RowKit Go.Proofs
set_option maxHeartbeats 16000000
set_option maxRecDepth 20000
attribute [local irreducible] WalkL Walk
theorem z693 (k : Kitchen) (day : Int) (l : List Int) (w : Int) : ∀ j, (clrTo k day l w j).1 = (clrTo k day l 0 j).1
  | 0 => rfl
  | j + 1 => by
    rw [clrTo, clrTo, z693 k day l w j]
    split
    · rfl
    · exact z693 k day l w j
def planL (k : Kitchen) : Nat → List Int × List (List Int)
  | 0 => (amtK k, [])
  | i + 1 => ((takeD k i (bestN k (k.days.length - i) (planL k i).1).2 (clr0 k i (planL k i).1).1).getD (clr0 k i (planL k i).1).1, (planL k i).2 ++ [(bestN k (k.days.length - i) (planL k i).1).2])
theorem z919 (k : Kitchen) (i : Nat) : planL k (i + 1) = ((takeD k i (bestN k (k.days.length - i) (planL k i).1).2 (clr0 k i (planL k i).1).1).getD (clr0 k i (planL k i).1).1, (planL k i).2 ++ [(bestN k (k.days.length - i) (planL k i).1).2]) := rfl
theorem z145 (k : Kitchen) : (amtK k).length = k.batches.length := by simp [amtK]
theorem z885 (k : Kitchen) (cnt : Nat → Int) : DayOk k [] cnt := ⟨by decide, fun g h => by simp at h, fun g h => by simp at h⟩
theorem z392 {k : Kitchen} (hg : KitGood k) {i : Nat} (hi : i < k.days.length) {l : List Int} (hl : l.length = k.batches.length) (ha : AmtOk l) : DayOk k (bestN k (k.days.length - i) l).2 (hiN k i) ∧ ((bestN k (k.days.length - i) l).2.length ≤ (k.days.getD i []).length) := by
  rcases (z467 hg (k.days.length - i) (by omega) l hl ha).2 with h | h | h
  · rw [h]; exact ⟨z885 k _, Nat.zero_le _⟩
  · omega
  · rw [show k.days.length - (k.days.length - i) = i by omega] at h
    obtain ⟨h1, h2⟩ := z445 hg hi h
    exact ⟨h2, by omega⟩
theorem z707 {k : Kitchen} (hg : KitGood k) : ∀ i, i ≤ k.days.length → AmtOk (planL k i).1 ∧ (planL k i).1.length = k.batches.length
  | 0, _ => ⟨z337 hg, z145 k⟩
  | i + 1, h => by
    obtain ⟨h1, h2⟩ := z707 hg i (by omega)
    obtain ⟨c1, c2, c3, c4⟩ := z694 hg (d := i) h2 h1
    rw [planL]
    dsimp only
    cases ht : takeD k i (bestN k (k.days.length - i) (planL k i).1).2 (clr0 k i (planL k i).1).1 with
    | none => exact ⟨c1, c2⟩
    | some l' =>
      obtain ⟨t1, t2⟩ := z400 hg (by omega) (z392 hg (by omega) h2 h1).1 c1 ht
      exact ⟨t1, by rw [Option.getD_some, t2, c2]⟩
theorem z519 (k : Kitchen) : ∀ i, (planL k i).2.length = i
  | 0 => rfl
  | i + 1 => by rw [planL]; simp [z519 k i]
def wasteK (k : Kitchen) : Int := (bestN k k.days.length (amtK k)).1
def planK (k : Kitchen) : List (List Int) × Int × Int :=
  if kitE k = 0 then (if wasteK k ≥ 1099511627776 then ([], 0, 3) else ((planL k k.days.length).2, wasteK k, 0)) else ([], 0, kitE k)
def lefts (k : Kitchen) (i : Nat) : List Int := (amtK k).take i ++ List.replicate (10 - i) 0
theorem z548 {k : Kitchen} {i : Nat} (h : i ≤ 10) (hi : i ≤ k.batches.length := by omega) : (lefts k i).length = 10 := by simp [lefts, amtK]; omega
theorem z866 {k : Kitchen} {i : Nat} (h : i < k.batches.length) (hb : k.batches.length ≤ 10) : (lefts k i).set i (batAt k i).amount = lefts k (i + 1) := by
  have e : (amtK k)[i]? = some (batAt k i).amount := by
    have := (List.getElem?_eq_getElem h)
    simp [amtK, batAt, this]
  have hl : ((amtK k).take i).length = i := by simp [amtK]; omega
  rw [lefts, lefts, List.take_add_one, e, List.set_append_right _ _ (by omega), hl, Nat.sub_self, show 10 - i = (10 - (i + 1)) + 1 by omega, List.replicate_succ]
  simp
theorem z867 (k : Kitchen) : lefts k k.batches.length = pad10 (amtK k) := by rw [lefts, pad10, z145, List.take_of_length_le (by rw [z145]; exact Nat.le_refl _)]
theorem z996 {c p : List Int} (h : c.length ≤ 10) (hp : p.length = c.length) (x : AV) : (List.map (fun r => AV.d (r.getD 0 DV.any)) (List.take (min c.length 10) (intRows c)) ++ List.drop (1 + min c.length 10)
    (x :: (pad10 p).map fun n => AV.d (.i n))) = (pad10 c).map fun n => AV.d (.i n) := by
  rw [Nat.min_eq_left h, Nat.add_comm, List.drop_succ_cons, List.take_of_length_le (by simp [intRows]), ← List.map_drop, pad10, ← hp, List.drop_left', pad10, ← hp, List.map_append, intRows, List.map_map]
  · rfl
  · rfl
theorem z1110 (k : Kitchen) (hs : KitSmall k) : Fn Try.prog 15 [.agg k.cells] (.tup [.sl (listRows (planK k).1), .i (planK k).2.1, .i (planK k).2.2]) := by
  have h35 := z1058 k hs
  unfold planK
  by_cases h0 : ¬ kitE k = 0
  · have hb : (kitE k == 0) = false := by simpa using h0
    have hb2 : (kitE k != 0) = true := by simpa using h0
    rw [if_neg h0]
    rw [Kitchen.cells] at h35 ⊢
    dsimp only
    refine z18 86 Try.call15 Try.func15 rfl (by decide) fun J => ?_
    simp (maxSteps := 4000000) only [go_sem, St.start, Try.ntmps15, Try.results15]
    repeat (first | refine z12 rfl ?_ | refine z11 rfl ?_ | refine nx ?_ | (refine z10 fun K hK => ?_; simp (maxSteps := 4000000) only [go_sem, hb, hb2]; (repeat (first | (refine ⟨_, .lent (hf := h35) (hd := rfl) (hr := rfl), ?_⟩; simp (maxSteps := 4000000) only [go_sem, hb, hb2]) | (refine ⟨_, .given (hf := h35) (hd := rfl) (ha := rfl), ?_⟩; simp (maxSteps := 4000000) only [go_sem, hb, hb2]))); refine hK _ ?_; clear hK K))
    simp (maxSteps := 4000000) only [go_sem, listRows, List.map_nil]
  have h0 : kitE k = 0 := Decidable.not_not.1 h0
  rw [if_pos h0]
  have hg : KitGood k := z175 (by
    cases hb : badKit k with
    | false => rfl
    | true => rw [kitE, hb] at h0; cases h0)
  rw [h0] at h35
  have hbl := hg.batches
  have h10 := hg.days
  rw [Kitchen.cells] at h35 ⊢
  refine z18 86 Try.call15 Try.func15 rfl (by decide) fun J => ?_
  simp (maxSteps := 4000000) only [go_sem, St.start, Try.ntmps15, Try.results15]
  repeat (first | refine z12 rfl ?_ | refine z11 rfl ?_ | refine nx ?_ | (refine z10 fun K hK => ?_; simp (maxSteps := 4000000) only [go_sem]; (repeat (first | (refine ⟨_, .lent (hf := h35) (hd := rfl) (hr := rfl), ?_⟩; simp (maxSteps := 4000000) only [go_sem]) | (refine ⟨_, .given (hf := h35) (hd := rfl) (ha := rfl), ?_⟩; simp (maxSteps := 4000000) only [go_sem]))); refine hK _ ?_; clear hK K))
  refine z15 (fun (i : Nat) => [(26, .d (.i (i : Int)))]) (fun i => [(7, some (.box (.d (.i 0) :: (lefts k i).map fun n => .d (.i n))))]) (fun i => i ≤ k.batches.length) (fun i => k.batches.length - i) 0 ?_ (Nat.zero_le _) ?_
  · simp (maxSteps := 4000000) only [go_sem]
    refine z13 [] ?_ ?_ rfl rfl <;> simp [lessT, lessM, lessB, AV.less, lefts]
  · intro i hi
    have hll := z548 (k := k) (i := i) (by omega)
    simp (maxSteps := 4000000) only [go_sem]
    repeat (first | refine nx ?_ | (refine z10 fun K hK => ?_; simp (maxSteps := 4000000) only [go_sem]; refine hK _ ?_; clear hK K))
    refine z14 rfl (fun hb => ?_) (fun hb => ?_)
    · have hlt : i < k.batches.length := by simpa using hb
      have hw : IntKind.i64.wrap ((i : Int) + 1) = ((i + 1 : Nat) : Int) := by rw [z16 (by omega)]; simp
      have gb := z147 hlt
      rw [Batch.row] at gb
      have hni : ¬ ((i : Int) < 0) := by omega
      have hi10 : i < 10 := by omega
      have hst := z866 hlt hbl
      have hsp : List.take (1 + i) (AV.d (DV.i 0) :: (lefts k i).map fun n => AV.d (DV.i n)) ++ AV.d (DV.i (batAt k i).amount) :: List.drop (1 + i) ((lefts k i).map fun n => AV.d (DV.i n)) = AV.d (DV.i 0) :: (lefts k (i + 1)).map fun n => AV.d (DV.i n) := by
        rw [← hst, List.map_set, List.set_eq_take_append_cons_drop, if_pos (by simp; omega), Nat.add_comm, List.take_succ_cons]
        rfl
      have h1i : 1 + i ≤ 10 := by omega
      obtain ⟨y0, y1, y2, y3, y4, y5, y6, y7, y8, y9, hy⟩ := ten (z548 (k := k) (i := i + 1) (by omega))
      rw [hy] at hsp
      simp only [List.map_cons, List.map_nil] at hsp
      repeat (first | refine nx ?_ | (refine z10 fun K hK => ?_; simp (maxSteps := 4000000) only [go_sem, gb, hni, hi10, hll, h1i, hsp, hw]; refine hK _ ?_; clear hK K))
      refine ⟨rfl, i + 1, ?_, hlt, by omega⟩
      simp only [hy, List.map_cons, List.map_nil]
      refine z13 [] ?_ ?_ rfl rfl <;> simp [lessT, lessM, lessB, AV.less]
    · have he : i = k.batches.length := by (have : ¬ i < k.batches.length := by simpa using hb); omega
      subst he
      have hpd : (lefts k k.batches.length) = pad10 (amtK k) := z867 k
      obtain ⟨x0, x1, x2, x3, x4, x5, x6, x7, x8, x9, hx⟩ := ten (z121 (l := amtK k) (by rw [z145]; omega))
      rw [hpd, hx]
      have h40 := z1040 k hg k.days.length (Nat.le_refl _) (amtK k) ([], 0) (z145 k) (z337 hg)
      obtain ⟨g1, g2⟩ := z249 hg k.days.length (Nat.le_refl _) (amtK k) (z145 k) (z337 hg) ([], 0) (z876 k)
      obtain ⟨⟨wv, wm⟩, es, c, hbm⟩ : ∃ p es c, bestM k k.days.length (amtK k) ([], 0) = (p, es, c) := ⟨_, _, _, rfl⟩
      rw [hbm] at h40 g1 g2
      rw [hx, Nat.sub_self, plannerRow] at h40
      dsimp only [planR, List.map_cons, List.map_nil] at h40
      simp only [List.map_cons, List.map_nil] at h40 ⊢
      dsimp only at g1 g2
      have hwv : wasteK k = wv := by rw [wasteK, ← g1]
      rw [hwv]
      change FnG Try.prog 40 [_, .mp (some 11) [] 0] [0] _ _ _ at h40
      repeat refine nx ?_
      refine z10 fun K hK => ?_
      simp (maxSteps := 4000000) only [go_sem]
      refine ⟨_, .own (ns := [22, 20]) (news := []) (bads := [20]) (rd := []) (hf := h40) (hnd := by decide) (hl0 := rfl) (hl1 := rfl) (hm := by repeat (first | exact trivial | refine And.intro ?_ ?_ | rfl)) (hnew := rfl) (hla := rfl) (ha := z26 (by repeat (first | exact trivial | refine And.intro ?_ ?_ | exact z27 rfl | exact z22 rfl rfl))) (hrd := rfl) (hsh := z23 _) (hb := rfl) (hfl := .inl rfl), ?_⟩
      simp (maxSteps := 4000000) only [go_sem, List.map_cons, List.map_nil]
      refine hK _ ?_
      clear hK K
      by_cases hge : wv ≥ 1099511627776
      · have hd : decide (wv ≥ 1099511627776) = true := decide_eq_true hge
        rw [if_pos hge]
        repeat (first | refine z12 rfl ?_ | refine z11 rfl ?_ | refine nx ?_ | (refine z10 fun K hK => ?_; simp (maxSteps := 4000000) only [go_sem, hd]; refine hK _ ?_; clear hK K))
        simp (maxSteps := 4000000) only [go_sem, listRows, List.map_nil]
      have hd : decide (wv ≥ 1099511627776) = false := decide_eq_false hge
      rw [if_neg hge]
      have h41 : FnG Try.prog 41 [] [] (List.map AV.d [.agg k.cells]) _ _ := z1002 k hbl
      simp only [lardRow] at h41
      rw [Kitchen.cells] at h41
      dsimp only
      repeat (first | refine z12 rfl ?_ | refine z11 rfl ?_ | refine nx ?_ | (refine z10 fun K hK => ?_; simp (maxSteps := 4000000) only [go_sem, hd]; refine hK _ ?_; clear hK K))
      refine z10 fun K hK => ?_
      simp (maxSteps := 4000000) only [go_sem]
      refine ⟨_, .made (news := [47, 13, 14]) (hf := h41) (hd := rfl) (hn := by decide) (hl := rfl) (hnew := rfl) (hx := rfl), ?_⟩
      simp (maxSteps := 4000000) only [go_sem, List.map_cons, List.map_nil]
      refine hK _ ?_
      clear hK K
      repeat (first | refine nx ?_ | (refine z10 fun K hK => ?_; simp (maxSteps := 4000000) only [go_sem]; refine hK _ ?_; clear hK K))
      refine z15 (fun (q : Nat × Int × (List EntK × Nat) × List Int × Int) => [(51, .d (.i (q.1 : Int))), (2, .own 82)])
        (fun q => [(47, some (.box [.d (.sl (intRows k.allerg)), .d (.sl (batRows k.batches)), .d (.sl (dishRows k.dishes)), .d (.sl (dayRows k.days)), .own 13, .own 14, .d (.i q.2.1)])), (13, some (.arr 3 1 (intRows (planL k q.1).1))),
          (20, some (.mp (some 11) (memK q.2.2.1.1) q.2.2.1.2)), (7, some (.box (.d (.i q.2.2.2.2) :: (pad10 q.2.2.2.1).map fun n => .d (.i n)))), (82, some (.arr 22 1 (listRows (planL k q.1).2)))])
        (fun q => q.1 ≤ k.days.length ∧ GoodT k q.2.2.1.1 ∧ (0 ≤ q.2.1 ∧ q.2.1 ≤ 144000000 * q.1) ∧ q.2.2.2.1.length = k.batches.length) (fun q => k.days.length - q.1) (0, 0, (es, c), amtK k, 0) ?_ ⟨Nat.zero_le _, g2, ⟨Int.le_refl _, Int.le_refl _⟩, z145 k⟩ ?_
      · simp (maxSteps := 4000000) only [go_sem, hx, List.map_cons, List.map_nil]
        refine z13 [82] ?_ ?_ rfl rfl <;> simp [lessT, lessM, lessB, AV.less, planL, listRows]
      · rintro ⟨i, w, ⟨es, c⟩, pv, e⟩ ⟨hi, hgt, ⟨hw0, hw1⟩, hpv⟩
        dsimp only at hi hgt hw0 hw1 hpv
        obtain ⟨z0, z1, z2, z3, z4, z5, z6, z7, z8, z9, hz⟩ := ten (z121 (l := pv) (by omega))
        obtain ⟨p1, p2⟩ := z707 hg i hi
        simp (maxSteps := 4000000) only [go_sem, hz, List.map_cons, List.map_nil]
        repeat (first | refine nx ?_ | (refine z10 fun K hK => ?_; simp (maxSteps := 4000000) only [go_sem]; refine hK _ ?_; clear hK K))
        refine z14 rfl (fun hb => ?_) (fun hb => ?_)
        · have hlt : i < k.days.length := by simpa using hb
          have hw : IntKind.i64.wrap ((i : Int) + 1) = ((i + 1 : Nat) : Int) := by rw [z16 (by omega)]; simp
          obtain ⟨L, hL⟩ : ∃ L, L = (planL k i).1 := ⟨_, rfl⟩
          have hps := z919 k i
          rw [← hL] at p1 p2 hps ⊢
          have hL10 : L.length ≤ 10 := by omega
          obtain ⟨y0, y1, y2, y3, y4, y5, y6, y7, y8, y9, hy⟩ := ten (z121 (l := L) hL10)
          have hcp := z996 (c := L) (p := pv) hL10 (by omega) (.d (.i e))
          rw [hy, hz] at hcp
          simp only [List.map_cons, List.map_nil] at hcp
          have hi1 : headIs 1 (intRows L) = true := by cases L <;> rfl
          have hir : k.days.length - (k.days.length - i) = i := by omega
          have h40 := z1040 k hg (k.days.length - i) (by omega) L (es, c) p2 p1
          obtain ⟨g1, g2⟩ := z249 hg (k.days.length - i) (by omega) L p2 p1 (es, c) hgt
          obtain ⟨m1, m2⟩ := z392 hg hlt p2 p1
          obtain ⟨⟨wv2, wm2⟩, es2, c2, hbm2⟩ : ∃ p es2 c2, bestM k (k.days.length - i) L (es, c) = (p, es2, c2) := ⟨_, _, _, rfl⟩
          rw [hbm2] at h40 g1 g2
          dsimp only at g1 g2
          rw [← g1] at m1 m2 hps
          dsimp only at m1 m2 hps
          rw [hir, hy, plannerRow] at h40
          dsimp only [planR, List.map_cons, List.map_nil] at h40
          simp only [List.map_cons, List.map_nil] at h40
          have h42 := z898 k hbl (i : Int) L (ordK k) w p2 p1 ⟨hw0, by omega⟩
          obtain ⟨c1, c2', c3⟩ := z42 (k := k) (day := (i : Int)) (w := w) p1 k.batches.length
          have c4 := z32 k (i : Int) L w k.batches.length
          have c5 : (clr0 k i L).1 = (clrTo k (i : Int) L w k.batches.length).1 := by rw [clr0, ← z693]
          rw [c5] at hps
          obtain ⟨⟨C, v⟩, hC⟩ : ∃ a, a = clrTo k (i : Int) L w k.batches.length := ⟨_, rfl⟩
          rw [← hC] at h42 c1 c2' c3 c4 hps
          dsimp only at c1 c2' c3 c4 hps
          have h44 := z897 k hg wm2 (hiN k i) 45 [.ptr [.ptr (k.cells ++ [.any]) 0] 0, .ptr [.i (i : Int)] 0] m1 (fun j hj => z1101 k i j hlt (by omega))
          have h43 := z958 k (needL k wm2 (hiN k i)) C (ordK k) v (by omega) hbl c1 (z48 hg m1) (by rw [z43]; exact hg.goods.2) (fun x hx => z41 hx) (by rw [z88]; exact hbl)
          rw [z43] at h43
          rw [Kitchen.cells] at h44
          dsimp only [List.cons_append, List.nil_append] at h44
          simp only [lardRow] at h42
          unfold takeD at hps
          obtain ⟨NN, hNN⟩ : ∃ NN, NN = needL k wm2 (hiN k i) := ⟨_, rfl⟩
          rw [← hNN] at h44 h43 hps
          obtain ⟨ms, hms⟩ : ∃ ms, ms = (planL k i).2 := ⟨_, rfl⟩
          have hap : listRows ms ++ [[.sl (intRows wm2)]] = listRows (ms ++ [wm2]) := by simp [listRows]
          have hml : ms.length + 1 ≤ 549755813888 := by rw [hms, z519]; omega
          rw [← hms] at hps ⊢
          repeat (first | refine nx ?_ | (refine z10 fun K hK => ?_; simp (maxSteps := 4000000) only [go_sem]; refine hK _ ?_; clear hK K))
          refine z17 (by kernel_rfl) (by kernel_rfl) fun K hK => ?_
          simp (maxSteps := 4000000) only [go_sem, hi1, z19, hcp]
          refine ⟨by kernel_rfl, hK _ ?_⟩
          clear hK K
          repeat refine nx ?_
          refine z10 fun K hK => ?_
          simp (maxSteps := 4000000) only [go_sem]
          refine hK _ ?_
          clear hK K
          repeat refine nx ?_
          refine z10 fun K hK => ?_
          simp (maxSteps := 4000000) only [go_sem]
          refine ⟨_, .own (ns := [22, 20]) (news := []) (bads := [20]) (rd := []) (hf := h40) (hnd := by decide) (hl0 := rfl) (hl1 := rfl) (hm := by repeat (first | exact trivial | refine And.intro ?_ ?_ | rfl)) (hnew := rfl) (hla := rfl) (ha := z26 (by repeat (first | exact trivial | refine And.intro ?_ ?_ | exact z27 rfl | exact z22 rfl rfl))) (hrd := rfl) (hsh := z23 _) (hb := rfl) (hfl := .inl rfl), ?_⟩
          simp (maxSteps := 4000000) only [go_sem, List.map_cons, List.map_nil]
          refine hK _ ?_
          clear hK K
          repeat refine nx ?_
          refine z10 fun K hK => ?_
          simp (maxSteps := 4000000) only [go_sem]
          refine ⟨_, .own (ns := [47, 13, 14]) (news := []) (bads := [13, 14]) (rd := []) (hf := h42) (hnd := by decide) (hl0 := rfl) (hl1 := rfl) (hm := by repeat (first | exact trivial | refine And.intro ?_ ?_ | rfl)) (hnew := rfl) (hla := rfl) (ha := z26 (by repeat (first | exact trivial | refine And.intro ?_ ?_ | exact z27 rfl | exact z22 rfl rfl))) (hrd := rfl) (hsh := z23 _) (hb := rfl) (hfl := .inl rfl), ?_⟩
          simp (maxSteps := 4000000) only [go_sem, List.map_cons, List.map_nil]
          refine hK _ ?_
          clear hK K
          cases htk : takeTo k (ordK k) NN C k.allerg.length with
          | none =>
            rw [htk] at h43 hps
            simp only [takeBlks, lardRow, Option.isSome_none] at h43
            rw [Option.getD_none] at hps
            repeat refine nx ?_
            refine z197 8 fun K hK => ?_
            simp (maxSteps := 4000000) only [go_sem]
            refine ⟨_, .lentS (hdst := rfl) (hf := h44) (hd := rfl) (hr := z38 _) (hfr := rfl), ?_⟩
            simp (maxSteps := 4000000) only [go_sem]
            refine ⟨_, z84 [77] _, ?_⟩
            simp (maxSteps := 4000000) only [go_sem]
            refine ⟨_, .own (ns := [47, 13, 14]) (news := []) (bads := [13, 14]) (rd := []) (hf := h43) (hnd := by decide) (hl0 := rfl) (hl1 := rfl) (hm := by repeat (first | exact trivial | refine And.intro ?_ ?_ | rfl)) (hnew := rfl) (hla := rfl) (ha := z26 (by repeat (first | exact trivial | refine And.intro ?_ ?_ | exact z27 rfl | exact z22 rfl rfl))) (hrd := rfl) (hsh := z23 _) (hb := rfl) (hfl := .inl rfl), ?_⟩
            simp (maxSteps := 4000000) only [go_sem, List.map_cons, List.map_nil]
            refine hK _ ?_
            clear hK K
            repeat (first | refine nx ?_ | (refine z10 fun K hK => ?_; simp (maxSteps := 4000000) only [go_sem, hml, hap, hw, z28]; refine hK _ ?_; clear hK K))
            refine ⟨rfl, (i + 1, v, (es2, c2), L, (i : Int)), ?_, ⟨hlt, g2, ⟨by dsimp only; omega, by dsimp only; push_cast; omega⟩, p2⟩, by dsimp only; omega⟩
            dsimp only
            rw [hps]
            simp (maxSteps := 4000000) only [go_sem, hy, List.map_cons, List.map_nil]
            refine z13 [] ?_ ?_ rfl rfl <;> simp [lessT, lessM, lessB, AV.less]
          | some c' =>
            rw [htk] at h43 hps
            simp only [takeBlks, lardRow, Option.isSome_some] at h43
            rw [Option.getD_some] at hps
            repeat refine nx ?_
            refine z197 8 fun K hK => ?_
            simp (maxSteps := 4000000) only [go_sem]
            refine ⟨_, .lentS (hdst := rfl) (hf := h44) (hd := rfl) (hr := z38 _) (hfr := rfl), ?_⟩
            simp (maxSteps := 4000000) only [go_sem]
            refine ⟨_, z84 [77] _, ?_⟩
            simp (maxSteps := 4000000) only [go_sem]
            refine ⟨_, .own (ns := [47, 13, 14]) (news := [15]) (bads := [13, 14]) (rd := []) (hf := h43) (hnd := by decide) (hl0 := rfl) (hl1 := rfl) (hm := by repeat (first | exact trivial | refine And.intro ?_ ?_ | rfl)) (hnew := rfl) (hla := rfl) (ha := z26 (by repeat (first | exact trivial | refine And.intro ?_ ?_ | exact z27 rfl | exact z22 rfl rfl))) (hrd := rfl) (hsh := z23 _) (hb := rfl) (hfl := .inl rfl), ?_⟩
            simp (maxSteps := 4000000) only [go_sem, List.map_cons, List.map_nil]
            refine hK _ ?_
            clear hK K
            refine z369 [] [] [(13, none)] ?_ ?_
            · simp (maxSteps := 4000000) only [go_sem]
              refine z13 [] ?_ ?_ rfl rfl <;> simp [lessT, lessM, lessB, AV.less]
            simp (maxSteps := 4000000) only [go_sem]
            refine z253 15 13 ?_
            simp (maxSteps := 4000000) only [go_sem]
            repeat (first | refine nx ?_ | (refine z10 fun K hK => ?_; simp (maxSteps := 4000000) only [go_sem, hml, hap, hw, z28]; refine hK _ ?_; clear hK K))
            refine ⟨rfl, (i + 1, v, (es2, c2), L, (i : Int)), ?_, ⟨hlt, g2, ⟨by dsimp only; omega, by dsimp only; push_cast; omega⟩, p2⟩, by dsimp only; omega⟩
            dsimp only
            rw [hps]
            simp (maxSteps := 4000000) only [go_sem, hy, List.map_cons, List.map_nil]
            refine z13 [] ?_ ?_ rfl rfl <;> simp [lessT, lessM, lessB, AV.less]
        · have he : i = k.days.length := by (have : ¬ i < k.days.length := by simpa using hb); omega
          subst he
          repeat (first | refine nx ?_ | (refine z10 fun K hK => ?_; simp (maxSteps := 4000000) only [go_sem]; refine hK _ ?_; clear hK K))
          simp (maxSteps := 4000000) only [go_sem]
end Go.Ab
namespace Go.Ab
open Go.RowKit Go.Proofs
set_option maxHeartbeats 16000000
set_option maxRecDepth 20000
attribute [local irreducible] WalkL Walk
def countB (n : Int) (g : Diners) : Bool := withinB n g.count.lo g.count.hi
theorem z1099 (n : Int) (g : Diners) : Fn Try.prog 53 [.i n, .agg g.row] (.bool (countB n g)) := by
  have h := z896 n g.count.lo g.count.hi
  unfold countB
  refine z18 13 Try.call53 Try.func53 rfl (by decide) fun J => ?_
  simp (maxSteps := 4000000) only [go_sem, St.start, Try.ntmps53, Try.results53, Diners.row]
  repeat (first | refine nx ?_ | (refine z10 fun K hK => ?_; simp (maxSteps := 4000000) only [go_sem]; (repeat (first | (refine ⟨_, .lent (hf := h) (hd := rfl) (hr := rfl), ?_⟩; simp (maxSteps := 4000000) only [go_sem]) | (refine ⟨_, .given (hf := h) (hd := rfl) (ha := rfl), ?_⟩; simp (maxSteps := 4000000) only [go_sem]))); refine hK _ ?_; clear hK K))
  simp (maxSteps := 4000000) only [go_sem]
theorem z1036 (k : Kitchen) (hg : KitGood k) (M : List (List Int)) (hM : M.length < 2 ^ 30) (hMr : ∀ r ∈ M, r.length < 2 ^ 30) : Fn Try.prog 52 [.agg k.cells, .sl (listRows M), .fn 53 []] (.bool (shapedB (countB) M k.days)) := by
  have hdd := hg.days
  have hgr := hg.groups
  obtain ⟨q, hq⟩ : ∃ q, q = countB := ⟨_, rfl⟩
  have h137 := fun (n : Int) (g : Diners) => z1099 n g
  simp only [← hq] at h137
  rw [← hq]
  obtain ⟨R, hR⟩ : ∃ R, R = shapedB q M k.days := ⟨_, rfl⟩
  rw [← hR]
  cases q1 : ((M.length : Int) != (k.days.length : Int))
  · have hl : M.length = k.days.length := by
      simp only [bne_eq_false_iff_eq] at q1
      omega
    refine z18 55 Try.call52 Try.func52 rfl (by decide) fun J => ?_
    simp (maxSteps := 4000000) only [go_sem, St.start, Try.ntmps52, Try.results52, Kitchen.cells]
    repeat (first | refine z12 rfl ?_ | refine z11 rfl ?_ | refine nx ?_ | (refine z10 fun K hK => ?_; simp (maxSteps := 4000000) only [go_sem, q1]; refine hK _ ?_; clear hK K))
    refine z15 (fun (i : Nat) => [(22, .d (.i (i : Int)))]) (fun _ => []) (fun i => i ≤ k.days.length ∧ R = shapedB q (M.drop i) (k.days.drop i)) (fun i => k.days.length - i) 0 ?_ ⟨Nat.zero_le _, hR⟩ ?_
    · simp (maxSteps := 4000000) only [go_sem]
      refine z13 [] ?_ ?_ rfl rfl <;> simp [lessT, lessM, lessB, AV.less]
    · rintro i ⟨hi, hRi⟩
      simp (maxSteps := 4000000) only [go_sem]
      repeat (first | refine nx ?_ | (refine z10 fun K hK => ?_; simp (maxSteps := 4000000) only [go_sem]; refine hK _ ?_; clear hK K))
      refine z14 rfl (fun hb => ?_) (fun hb => ?_)
      · have hlt : i < k.days.length := by simpa using hb
        have hw : IntKind.i64.wrap ((i : Int) + 1) = ((i + 1 : Nat) : Int) := by rw [z16 (by omega)]; simp
        obtain ⟨d, hd⟩ : ∃ d, k.days[i]? = some d := ⟨_, List.getElem?_eq_getElem hlt⟩
        obtain ⟨r, hr⟩ : ∃ r, M[i]? = some r := ⟨_, List.getElem?_eq_getElem (by omega)⟩
        have g1 := z69 hd
        have g2 := z33 hr
        have hni : ¬ ((i : Int) < 0) := by omega
        have hd3 := (hgr d (List.mem_of_getElem? hd)).1
        rw [z31 hd, z31 hr, shapedB] at hRi
        cases q2 : ((r.length : Int) != (d.length : Int))
        · have hrl : r.length = d.length := by
            simp only [bne_eq_false_iff_eq] at q2
            omega
          repeat (first | refine z12 rfl ?_ | refine z11 rfl ?_ | refine nx ?_ | (refine z10 fun K hK => ?_; simp (maxSteps := 4000000) only [go_sem, g1, g2, hni, q2]; refine hK _ ?_; clear hK K))
          refine z15 (fun (j : Nat) => [(37, .d (.i (j : Int)))]) (fun _ => []) (fun j => j ≤ d.length ∧ R = (rowOk q (r.drop j) (d.drop j) && shapedB q (M.drop (i + 1)) (k.days.drop (i + 1)))) (fun j => d.length - j) 0 ?_ ⟨Nat.zero_le _, hRi⟩ ?_
          · simp (maxSteps := 4000000) only [go_sem]
            refine z13 [] ?_ ?_ rfl rfl <;> simp [lessT, lessM, lessB, AV.less]
          · rintro j ⟨hj, hRj⟩
            simp (maxSteps := 4000000) only [go_sem]
            repeat (first | refine nx ?_ | (refine z10 fun K hK => ?_; simp (maxSteps := 4000000) only [go_sem]; refine hK _ ?_; clear hK K))
            refine z14 rfl (fun hb => ?_) (fun hb => ?_)
            · have hltj : j < d.length := by simpa using hb
              have hwj : IntKind.i64.wrap ((j : Int) + 1) = ((j + 1 : Nat) : Int) := by rw [z16 (by omega)]; simp
              obtain ⟨g, hgj⟩ : ∃ g, d[j]? = some g := ⟨_, List.getElem?_eq_getElem hltj⟩
              obtain ⟨n, hnj⟩ : ∃ n, r[j]? = some n := ⟨_, List.getElem?_eq_getElem (by omega)⟩
              have g3 := z68 hgj
              have g4 := z39 hnj
              rw [Diners.row] at g3
              have hnjj : ¬ ((j : Int) < 0) := by omega
              have hc := h137 n g
              rw [Diners.row] at hc
              rw [z31 hgj, z31 hnj, rowOk] at hRj
              cases q3 : q n g
              · rw [q3] at hRj hc
                rw [Bool.false_and, Bool.false_and] at hRj
                rw [hRj]
                repeat (first | refine nx ?_ | (refine z10 fun K hK => ?_; simp (maxSteps := 4000000) only [go_sem, g3]; refine hK _ ?_; clear hK K))
                refine z17 (by kernel_rfl) (by kernel_rfl) fun K hK => ?_
                simp (maxSteps := 4000000) only [go_sem, g2, g4, hni, hnjj]
                refine ⟨_, .fn (hf := hc) (hd := rfl) (hr := .inl rfl), ?_⟩
                simp (maxSteps := 4000000) only [go_sem]
                refine ⟨by kernel_rfl, hK _ ?_⟩
                clear hK K
                repeat (first | refine z12 rfl ?_ | refine z11 rfl ?_ | refine nx ?_ | (refine z10 fun K hK => ?_; simp (maxSteps := 4000000) only [go_sem]; refine hK _ ?_; clear hK K))
                simp (maxSteps := 4000000) only [go_sem]
              · rw [q3] at hRj hc
                rw [Bool.true_and] at hRj
                repeat (first | refine nx ?_ | (refine z10 fun K hK => ?_; simp (maxSteps := 4000000) only [go_sem, g3]; refine hK _ ?_; clear hK K))
                refine z17 (by kernel_rfl) (by kernel_rfl) fun K hK => ?_
                simp (maxSteps := 4000000) only [go_sem, g2, g4, hni, hnjj]
                refine ⟨_, .fn (hf := hc) (hd := rfl) (hr := .inl rfl), ?_⟩
                simp (maxSteps := 4000000) only [go_sem]
                refine ⟨by kernel_rfl, hK _ ?_⟩
                clear hK K
                repeat (first | refine z12 rfl ?_ | refine z11 rfl ?_ | refine nx ?_ | (refine z10 fun K hK => ?_; simp (maxSteps := 4000000) only [go_sem, hwj]; refine hK _ ?_; clear hK K))
                refine ⟨rfl, j + 1, ?_, ⟨hltj, hRj⟩, by omega⟩
                refine z13 [] ?_ ?_ rfl rfl <;> simp [lessT, lessM, lessB, AV.less]
            · have he : j = d.length := by (have : ¬ j < d.length := by simpa using hb); omega
              subst he
              rw [List.drop_length, ← hrl, List.drop_length, rowOk, Bool.true_and] at hRj
              repeat (first | refine nx ?_ | (refine z10 fun K hK => ?_; simp (maxSteps := 4000000) only [go_sem, hw]; refine hK _ ?_; clear hK K))
              refine ⟨rfl, i + 1, ?_, ⟨hlt, hRj⟩, by omega⟩
              refine z13 [] ?_ ?_ rfl rfl <;> simp [lessT, lessM, lessB, AV.less]
        · have hf : rowOk q r d = false := by
            cases hx : rowOk q r d with
            | false => rfl
            | true =>
              have := z86 hx
              rw [this] at q2
              simp at q2
          rw [hf, Bool.false_and] at hRi
          rw [hRi]
          repeat (first | refine z12 rfl ?_ | refine z11 rfl ?_ | refine nx ?_ | (refine z10 fun K hK => ?_; simp (maxSteps := 4000000) only [go_sem, g1, g2, hni, q2]; refine hK _ ?_; clear hK K))
          simp (maxSteps := 4000000) only [go_sem]
      · have he : i = k.days.length := by (have : ¬ i < k.days.length := by simpa using hb); omega
        subst he
        rw [List.drop_length, ← hl, List.drop_length, shapedB] at hRi
        rw [hRi]
        repeat (first | refine nx ?_ | (refine z10 fun K hK => ?_; simp (maxSteps := 4000000) only [go_sem]; refine hK _ ?_; clear hK K))
        simp (maxSteps := 4000000) only [go_sem]
  · have hf : R = false := by
      rw [hR]
      cases hx : shapedB q M k.days with
      | false => rfl
      | true =>
        have := z37 hx
        rw [this] at q1
        simp at q1
    rw [hf]
    refine z18 55 Try.call52 Try.func52 rfl (by decide) fun J => ?_
    simp (maxSteps := 4000000) only [go_sem, St.start, Try.ntmps52, Try.results52, Kitchen.cells]
    repeat (first | refine z12 rfl ?_ | refine z11 rfl ?_ | refine nx ?_ | (refine z10 fun K hK => ?_; simp (maxSteps := 4000000) only [go_sem, q1]; refine hK _ ?_; clear hK K))
    simp (maxSteps := 4000000) only [go_sem]
def cntOf (C : List (List Int)) (d g : Nat) : Int := getI (C.getD d []) (g : Int)
theorem z1098 (C : List (List Int)) (d g : Nat) (hd : d < C.length) (hg : g < (C.getD d []).length) : Fn Try.prog 56 [.i (d : Int), .i (g : Int), .ptr [.sl (listRows C)] 0] (.i (cntOf C d g)) := by
  have e : C.getD d [] = C[d] := by rw [List.getD, List.getElem?_eq_getElem hd]; rfl
  have g1 := z33 (List.getElem?_eq_getElem hd)
  unfold cntOf
  rw [e] at hg ⊢
  have g2 := z21 hg
  have n1 : ¬ ((d : Int) < 0) := by omega
  have n2 : ¬ ((g : Int) < 0) := by omega
  refine z18 13 Try.call56 Try.func56 rfl (by decide) fun J => ?_
  simp (maxSteps := 4000000) only [go_sem, St.start, Try.ntmps56, Try.results56]
  repeat (first | refine nx ?_ | (refine z10 fun K hK => ?_; simp (maxSteps := 4000000) only [go_sem, g1, g2, n1, n2]; refine hK _ ?_; clear hK K))
  simp (maxSteps := 4000000) only [go_sem]
theorem z1032 (C : List (List Int)) (d g : Nat) (hd : d < C.length) (hg : g < (C.getD d []).length) : Fn Try.prog 84 [.i (g : Int), .ptr [.fn 56 [.ptr [.sl (listRows C)] 0]] 0, .ptr [.i (d : Int)] 0] (.i (cntOf C d g)) := by
  have h := z1098 C d g hd hg
  refine z18 9 Try.call84 Try.func84 rfl (by decide) fun J => ?_
  simp (maxSteps := 4000000) only [go_sem, St.start, Try.ntmps84, Try.results84]
  repeat (first | refine nx ?_ | (refine z10 fun K hK => ?_; simp (maxSteps := 4000000) only [go_sem]; (repeat (first | (refine ⟨_, .lent (hf := h) (hd := rfl) (hr := rfl), ?_⟩; simp (maxSteps := 4000000) only [go_sem]) | (refine ⟨_, .given (hf := h) (hd := rfl) (ha := rfl), ?_⟩; simp (maxSteps := 4000000) only [go_sem]))); refine hK _ ?_; clear hK K))
  simp (maxSteps := 4000000) only [go_sem]
theorem z886 {k : Kitchen} (hg : KitWide k) {C : List (List Int)} (hC : shapedB countB C k.days = true) : CntOk k (cntOf C) := ⟨fun d g hd hgl => by
  have hl := z37 hC
  obtain ⟨r, hr⟩ : ∃ r, C[d]? = some r := ⟨_, List.getElem?_eq_getElem (by omega)⟩
  obtain ⟨x, hx, hro⟩ := z152 hC hr
  have e : k.days.getD d [] = x := by rw [List.getD, hx]; rfl
  rw [e] at hgl
  have hrl := z86 hro
  obtain ⟨n, hn⟩ : ∃ n, r[g]? = some n := ⟨_, List.getElem?_eq_getElem (by omega)⟩
  obtain ⟨y, hy, hq⟩ := z441 hro hn
  have hi := ((hg.groups x (List.mem_of_getElem? hx)).2 y (List.mem_of_getElem? hy)).2
  have hw := z44.1 hq
  have e2 : cntOf C d g = n := by rw [cntOf, List.getD, hr, Option.getD_some, getI, Int.toNat_natCast, List.getD, hn]; rfl
  rw [e2]
  omega⟩
theorem z962 {k : Kitchen} {C : List (List Int)} (hC : shapedB countB C k.days = true) {d g : Nat} (hd : d < k.days.length) (hgl : g < (k.days.getD d []).length) : d < C.length ∧ g < (C.getD d []).length := by
  have hl := z37 hC
  obtain ⟨r, hr⟩ : ∃ r, C[d]? = some r := ⟨_, List.getElem?_eq_getElem (by omega)⟩
  obtain ⟨x, hx, hro⟩ := z152 hC hr
  have e : k.days.getD d [] = x := by rw [List.getD, hx]; rfl
  rw [e] at hgl
  have hrl := z86 hro
  refine ⟨by omega, ?_⟩
  rw [List.getD, hr, Option.getD_some]
  omega
end Go.Ab
namespace Go.Ab
open Go.RowKit Go.Proofs
set_option maxHeartbeats 16000000
set_option maxRecDepth 20000
attribute [local irreducible] WalkL Walk
theorem z1034 (k : Kitchen) (hg : KitGood k) (M : List (List Int)) (hM : shapedB (menuB k) M k.days = true) (N : List (List Int)) (hN : shapedB countB N k.days = true) :
    FnG Try.prog 55 [.box (lardRow k (.own 1) (.own 2) 0), .arr 3 1 (intRows (amtK k)), .arr 3 1 (natRows (ordK k))] [0] [.box 0 0, .d (.sl (listRows M)), .d (.fn 56 [.ptr [.sl (listRows N)] 0])] (.d (.i (lastD k M (cntOf N) M.length : Nat))) (runBlks k M (cntOf N)) := by
  have hc := z886 hg hN
  have hf84 := fun d g (hd : d < k.days.length) (hgl : g < (k.days.getD d []).length) => z1032 N d g (z962 hN hd hgl).1 (z962 hN hd hgl).2
  obtain ⟨cnt, hcnt⟩ : ∃ cnt, cnt = cntOf N := ⟨_, rfl⟩
  rw [← hcnt] at hc ⊢
  simp only [← hcnt] at hf84
  have hbl := hg.batches
  have hdl := hg.days
  have hMl := z37 hM
  have hgo := hg.goods
  obtain ⟨A0, hA0⟩ : ∃ a, a = left0 k := ⟨_, rfl⟩
  refine z58 33 Try.call55 Try.func55 rfl (by decide) [] [(0, 0)] (by simp only [List.length_cons, List.length_nil]; decide) (by kernel_rfl) fun J => ?_
  simp (maxSteps := 4000000) only [go_sem, St.startG, Try.ntmps55, Try.results55, List.map_cons, List.map_nil, List.range_succ,  lardRow]
  repeat refine nx ?_
  refine z10 fun K hK => ?_
  simp (maxSteps := 4000000) only [go_sem]
  refine hK _ ?_
  clear hK K
  refine z20 [5] ?_
  simp (maxSteps := 4000000) only [go_sem]
  repeat (first | refine nx ?_ | (refine z10 fun K hK => ?_; simp (maxSteps := 4000000) only [go_sem, z28]; refine hK _ ?_; clear hK K))
  refine z15 (fun (q : Nat × Nat × List Int × Int) => [(11, .d (.i (q.1 : Int)))])
    (fun q => [(33, some (.box (lardRow k (.own (nmL q.2.1)) (.own 35) q.2.2.2))), (34, some (.arr 3 1 (intRows (if q.2.1 = 0 then q.2.2.1 else A0)))), (1, if q.2.1 = 1 then some (.arr 3 1 (intRows q.2.2.1)) else none), (2, if q.2.1 = 2 then some (.arr 3 1 (intRows q.2.2.1)) else none)])
    (fun q => q.1 ≤ M.length ∧ runSt k M cnt q.1 = some q.2.2 ∧ (q.2.1 = 0 → q.1 = 0 ∧ q.2.2.1 = amtK k) ∧ (q.1 = 0 → q.2.1 = 0) ∧ q.2.1 < 3) (fun q => M.length - q.1) (0, 0, amtK k, 0) ?_ ⟨Nat.zero_le _, rfl, fun _ => ⟨rfl, rfl⟩, fun _ => rfl, Nat.zero_lt_succ _⟩ ?_
  · simp (maxSteps := 4000000) only [go_sem, nmL, lardRow]
    refine z13 [] ?_ ?_ rfl rfl <;> simp [lessT, lessM, lessB, AV.less]
    all_goals first | done | rfl | exact ⟨rfl, rfl⟩ | trace_state
  · rintro ⟨d, p, l, w⟩ ⟨hd, hrun, hp0, hd0, hp3⟩
    dsimp only at hd hrun hp0 hd0 hp3
    obtain ⟨hla, hll, hw0, hw1⟩ := z202 hg hM hc d (l, w) hd hrun
    dsimp only at hla hll hw0 hw1
    have hw2 : w ≤ 2 ^ 40 := by omega
    have hsome : (runSt k M cnt d).isSome = true := by rw [hrun]; rfl
    have hlast : d = M.length → lastD k M cnt M.length = d ∧ endSt k M cnt = (l, w) := fun he => by
      have e : lastD k M cnt M.length = d := by rw [← he]; exact z129 hsome
      refine ⟨e, ?_⟩
      rw [endSt, e, hrun, if_neg (by omega)]
      rfl
    have hstop : d < M.length → runSt k M cnt (d + 1) = none → lastD k M cnt M.length = d ∧ endSt k M cnt = clrD k d (l, w) := fun hlt hn => by
      have e : lastD k M cnt M.length = d := z240 hsome hn (by omega)
      refine ⟨e, ?_⟩
      rw [endSt, e, hrun, if_pos hlt]
      rfl
    have hstep : d < M.length → runSt k M cnt (d + 1) = (takeTo k (ordK k) (needD k M cnt d) (clrD k d (l, w)).1 k.allerg.length).map fun c => (c, (clrD k d (l, w)).2) := fun _ => by rw [runSt, hrun]
    rcases (by omega : p = 0 ∨ p = 1 ∨ p = 2) with hp | hp | hp
    · -- phase 0
      subst hp
      obtain ⟨hz0, hl1⟩ := hp0 rfl
      have hLA := z238 hz0
      simp (maxSteps := 4000000) only [go_sem, nmL, lardRow]
      repeat (first | refine nx ?_ | (refine z10 fun K hK => ?_; simp (maxSteps := 4000000) only [go_sem]; refine hK _ ?_; clear hK K))
      refine z14 rfl (fun hb => ?_) (fun hb => ?_)
      · have hlt : d < M.length := by simpa using hb
        have hw : IntKind.i64.wrap ((d : Int) + 1) = ((d + 1 : Nat) : Int) := by rw [z16 (by omega)]; simp
        obtain ⟨r, hr⟩ : ∃ r, M[d]? = some r := ⟨_, List.getElem?_eq_getElem hlt⟩
        obtain ⟨hdd, hrl, hday⟩ := z109 hg hM hc hr
        have g1 := z33 hr
        have hni : ¬ ((d : Int) < 0) := by omega
        have hnd : needD k M cnt d = needL k r (cnt d) := by rw [needD, List.getD, hr]; rfl
        have hst := hstep hlt
        have hsp := hstop hlt
        rw [hnd] at hst
        have h86 := z898 k hbl (d : Int) l (ordK k) w hll hla ⟨hw0, hw2⟩
        obtain ⟨c1, c2, c3⟩ := z42 (k := k) (day := (d : Int)) (w := w) hla k.batches.length
        have c4 := z32 k (d : Int) l w k.batches.length
        change runSt k M cnt (d + 1) = (takeTo k (ordK k) (needL k r (cnt d)) (clrTo k (d : Int) l w k.batches.length).1 k.allerg.length).map fun c => (c, (clrTo k (d : Int) l w k.batches.length).2) at hst
        change runSt k M cnt (d + 1) = none → lastD k M cnt M.length = d ∧ endSt k M cnt = clrTo k (d : Int) l w k.batches.length at hsp
        obtain ⟨⟨C, v⟩, hC⟩ : ∃ a, a = clrTo k (d : Int) l w k.batches.length := ⟨_, rfl⟩
        rw [← hC] at h86 c1 c2 c3 c4 hst hsp
        dsimp only at c1 c2 c3 c4 hst
        have hAC : C = A0 := by
          have h0 : (l, w) = (amtK k, 0) := by rw [hz0] at hrun; exact (Option.some.inj hrun).symm
          rw [hA0, left0, clrD, ← h0]
          rw [hz0] at hC
          exact congrArg Prod.fst hC
        subst hAC
        have h87 := (z897 k hg r (cnt d) 84 [.ptr [.fn 56 [.ptr [.sl (listRows N)] 0]] 0, .ptr [.i (d : Int)] 0] hday (fun j hj => hf84 d j hdd (by omega))).deep
        have h141 := z958 k (needL k r (cnt d)) C (ordK k) v (by omega) hbl c1 (z48 hg hday) (by rw [z43]; exact hgo.2) (fun x hx => z41 hx) (by rw [z88]; exact hbl)
        rw [z43] at h141
        simp only [lardRow] at h86
        rw [Kitchen.cells] at h87
        obtain ⟨NE, hNE⟩ : ∃ NE, NE = needL k r (cnt d) := ⟨_, rfl⟩
        rw [← hNE] at h87 h141 hst
        repeat refine nx ?_
        refine z10 fun K hK => ?_
        simp (maxSteps := 4000000) only [go_sem, g1, hni]
        refine hK _ ?_
        clear hK K
        refine z20 [7] ?_
        simp (maxSteps := 4000000) only [go_sem]
        repeat refine nx ?_
        refine z10 fun K hK => ?_
        simp (maxSteps := 4000000) only [go_sem]
        refine ⟨_, .own (ns := [33, 34, 35]) (news := []) (bads := [34, 35]) (rd := []) (hf := h86) (hnd := by decide) (hl0 := rfl) (hl1 := rfl) (hm := by repeat (first | exact trivial | refine And.intro ?_ ?_ | rfl)) (hnew := rfl) (hla := rfl) (ha := z26 (by repeat (first | exact trivial | refine And.intro ?_ ?_ | exact z27 rfl | exact z22 rfl rfl))) (hrd := rfl) (hsh := z23 _) (hb := rfl) (hfl := .inl rfl), ?_⟩
        simp (maxSteps := 4000000) only [go_sem, List.map_cons, List.map_nil]
        refine hK _ ?_
        clear hK K
        cases htk : takeTo k (ordK k) NE C k.allerg.length with
        | none =>
          rw [htk] at h141 hst
          obtain ⟨hD, hE⟩ := hsp hst
          simp only [takeBlks, lardRow, Option.isSome_none] at h141
          repeat refine nx ?_
          refine z10 fun K hK => ?_
          simp (maxSteps := 4000000) only [go_sem]
          refine ⟨_, .given (hf := h87) (hd := rfl) (ha := rfl), ?_⟩
          simp (maxSteps := 4000000) only [go_sem]
          refine ⟨_, .own (ns := [33, 34, 35]) (news := []) (bads := [34, 35]) (rd := []) (hf := h141) (hnd := by decide) (hl0 := rfl) (hl1 := rfl) (hm := by repeat (first | exact trivial | refine And.intro ?_ ?_ | rfl)) (hnew := rfl) (hla := rfl) (ha := z26 (by repeat (first | exact trivial | refine And.intro ?_ ?_ | exact z27 rfl | exact z22 rfl rfl))) (hrd := rfl) (hsh := z23 _) (hb := rfl) (hfl := .inl rfl), ?_⟩
          simp (maxSteps := 4000000) only [go_sem, List.map_cons, List.map_nil]
          refine hK _ ?_
          clear hK K
          repeat (first | refine nx ?_ | (refine z10 fun K hK => ?_; simp (maxSteps := 4000000) only [go_sem]; refine hK _ ?_; clear hK K))
          repeat (first | refine z12 rfl ?_ | refine z11 rfl ?_ | refine nx ?_ | (refine z10 fun K hK => ?_; simp (maxSteps := 4000000) only [go_sem]; refine hK _ ?_; clear hK K))
          simp (maxSteps := 4000000) only [go_sem, retG, runBlks, lardRow, hD, hE, hLA, ← hA0]
        | some c =>
          rw [htk] at h141 hst
          simp only [takeBlks, lardRow, Option.isSome_some] at h141
          repeat refine nx ?_
          refine z10 fun K hK => ?_
          simp (maxSteps := 4000000) only [go_sem]
          refine ⟨_, .given (hf := h87) (hd := rfl) (ha := rfl), ?_⟩
          simp (maxSteps := 4000000) only [go_sem]
          refine ⟨_, .own (ns := [33, 34, 35]) (news := [2]) (bads := [34, 35]) (rd := []) (hf := h141) (hnd := by decide) (hl0 := rfl) (hl1 := rfl) (hm := by repeat (first | exact trivial | refine And.intro ?_ ?_ | rfl)) (hnew := rfl) (hla := rfl) (ha := z26 (by repeat (first | exact trivial | refine And.intro ?_ ?_ | exact z27 rfl | exact z22 rfl rfl))) (hrd := rfl) (hsh := z23 _) (hb := rfl) (hfl := .inl rfl), ?_⟩
          simp (maxSteps := 4000000) only [go_sem, List.map_cons, List.map_nil]
          refine hK _ ?_
          clear hK K
          repeat (first | refine z12 rfl ?_ | refine z11 rfl ?_ | refine nx ?_ | (refine z10 fun K hK => ?_; simp (maxSteps := 4000000) only [go_sem, hw]; refine hK _ ?_; clear hK K))
          refine ⟨rfl, (d + 1, 2, c, v), ?_, ⟨hlt, hst, fun h => absurd (show 2 = 0 from h) (by decide), fun h => absurd (show d + 1 = 0 from h) (by omega), (by decide : 2 < 3)⟩, by dsimp only; omega⟩
          simp (maxSteps := 4000000) only [go_sem, nmL, lardRow]
          refine z13 [] ?_ ?_ rfl rfl <;> simp [lessT, lessM, lessB, AV.less]
          all_goals first | done | rfl | exact ⟨rfl, rfl⟩ | trace_state
      · have he : d = M.length := by (have : ¬ d < M.length := by simpa using hb); omega
        subst he
        exfalso
        omega
    · -- phase 1
      subst hp
      have hpos : d ≠ 0 := fun h => by have := hd0 h; omega
      have hLA := z104 hpos
      simp (maxSteps := 4000000) only [go_sem, nmL, lardRow]
      repeat (first | refine nx ?_ | (refine z10 fun K hK => ?_; simp (maxSteps := 4000000) only [go_sem]; refine hK _ ?_; clear hK K))
      refine z14 rfl (fun hb => ?_) (fun hb => ?_)
      · have hlt : d < M.length := by simpa using hb
        have hw : IntKind.i64.wrap ((d : Int) + 1) = ((d + 1 : Nat) : Int) := by rw [z16 (by omega)]; simp
        obtain ⟨r, hr⟩ : ∃ r, M[d]? = some r := ⟨_, List.getElem?_eq_getElem hlt⟩
        obtain ⟨hdd, hrl, hday⟩ := z109 hg hM hc hr
        have g1 := z33 hr
        have hni : ¬ ((d : Int) < 0) := by omega
        have hnd : needD k M cnt d = needL k r (cnt d) := by rw [needD, List.getD, hr]; rfl
        have hst := hstep hlt
        have hsp := hstop hlt
        rw [hnd] at hst
        have h86 := z898 k hbl (d : Int) l (ordK k) w hll hla ⟨hw0, hw2⟩
        obtain ⟨c1, c2, c3⟩ := z42 (k := k) (day := (d : Int)) (w := w) hla k.batches.length
        have c4 := z32 k (d : Int) l w k.batches.length
        change runSt k M cnt (d + 1) = (takeTo k (ordK k) (needL k r (cnt d)) (clrTo k (d : Int) l w k.batches.length).1 k.allerg.length).map fun c => (c, (clrTo k (d : Int) l w k.batches.length).2) at hst
        change runSt k M cnt (d + 1) = none → lastD k M cnt M.length = d ∧ endSt k M cnt = clrTo k (d : Int) l w k.batches.length at hsp
        obtain ⟨⟨C, v⟩, hC⟩ : ∃ a, a = clrTo k (d : Int) l w k.batches.length := ⟨_, rfl⟩
        rw [← hC] at h86 c1 c2 c3 c4 hst hsp
        dsimp only at c1 c2 c3 c4 hst
        have h87 := (z897 k hg r (cnt d) 84 [.ptr [.fn 56 [.ptr [.sl (listRows N)] 0]] 0, .ptr [.i (d : Int)] 0] hday (fun j hj => hf84 d j hdd (by omega))).deep
        have h141 := z958 k (needL k r (cnt d)) C (ordK k) v (by omega) hbl c1 (z48 hg hday) (by rw [z43]; exact hgo.2) (fun x hx => z41 hx) (by rw [z88]; exact hbl)
        rw [z43] at h141
        simp only [lardRow] at h86
        rw [Kitchen.cells] at h87
        obtain ⟨NE, hNE⟩ : ∃ NE, NE = needL k r (cnt d) := ⟨_, rfl⟩
        rw [← hNE] at h87 h141 hst
        repeat refine nx ?_
        refine z10 fun K hK => ?_
        simp (maxSteps := 4000000) only [go_sem, g1, hni]
        refine hK _ ?_
        clear hK K
        refine z20 [7] ?_
        simp (maxSteps := 4000000) only [go_sem]
        repeat refine nx ?_
        refine z10 fun K hK => ?_
        simp (maxSteps := 4000000) only [go_sem]
        refine ⟨_, .own (ns := [33, 1, 35]) (news := []) (bads := [1, 35]) (rd := []) (hf := h86) (hnd := by decide) (hl0 := rfl) (hl1 := rfl) (hm := by repeat (first | exact trivial | refine And.intro ?_ ?_ | rfl)) (hnew := rfl) (hla := rfl) (ha := z26 (by repeat (first | exact trivial | refine And.intro ?_ ?_ | exact z27 rfl | exact z22 rfl rfl))) (hrd := rfl) (hsh := z23 _) (hb := rfl) (hfl := .inl rfl), ?_⟩
        simp (maxSteps := 4000000) only [go_sem, List.map_cons, List.map_nil]
        refine hK _ ?_
        clear hK K
        cases htk : takeTo k (ordK k) NE C k.allerg.length with
        | none =>
          rw [htk] at h141 hst
          obtain ⟨hD, hE⟩ := hsp hst
          simp only [takeBlks, lardRow, Option.isSome_none] at h141
          repeat refine nx ?_
          refine z10 fun K hK => ?_
          simp (maxSteps := 4000000) only [go_sem]
          refine ⟨_, .given (hf := h87) (hd := rfl) (ha := rfl), ?_⟩
          simp (maxSteps := 4000000) only [go_sem]
          refine ⟨_, .own (ns := [33, 1, 35]) (news := []) (bads := [1, 35]) (rd := []) (hf := h141) (hnd := by decide) (hl0 := rfl) (hl1 := rfl) (hm := by repeat (first | exact trivial | refine And.intro ?_ ?_ | rfl)) (hnew := rfl) (hla := rfl) (ha := z26 (by repeat (first | exact trivial | refine And.intro ?_ ?_ | exact z27 rfl | exact z22 rfl rfl))) (hrd := rfl) (hsh := z23 _) (hb := rfl) (hfl := .inl rfl), ?_⟩
          simp (maxSteps := 4000000) only [go_sem, List.map_cons, List.map_nil]
          refine hK _ ?_
          clear hK K
          repeat (first | refine nx ?_ | (refine z10 fun K hK => ?_; simp (maxSteps := 4000000) only [go_sem]; refine hK _ ?_; clear hK K))
          refine z20 [1] ?_
          simp (maxSteps := 4000000) only [go_sem]
          repeat (first | refine z12 rfl ?_ | refine z11 rfl ?_ | refine nx ?_ | (refine z10 fun K hK => ?_; simp (maxSteps := 4000000) only [go_sem]; refine hK _ ?_; clear hK K))
          simp (maxSteps := 4000000) only [go_sem, retG, runBlks, lardRow, hD, hE, hLA, ← hA0]
        | some c =>
          rw [htk] at h141 hst
          simp only [takeBlks, lardRow, Option.isSome_some] at h141
          repeat refine nx ?_
          refine z10 fun K hK => ?_
          simp (maxSteps := 4000000) only [go_sem]
          refine ⟨_, .given (hf := h87) (hd := rfl) (ha := rfl), ?_⟩
          simp (maxSteps := 4000000) only [go_sem]
          refine ⟨_, .own (ns := [33, 1, 35]) (news := [2]) (bads := [1, 35]) (rd := []) (hf := h141) (hnd := by decide) (hl0 := rfl) (hl1 := rfl) (hm := by repeat (first | exact trivial | refine And.intro ?_ ?_ | rfl)) (hnew := rfl) (hla := rfl) (ha := z26 (by repeat (first | exact trivial | refine And.intro ?_ ?_ | exact z27 rfl | exact z22 rfl rfl))) (hrd := rfl) (hsh := z23 _) (hb := rfl) (hfl := .inl rfl), ?_⟩
          simp (maxSteps := 4000000) only [go_sem, List.map_cons, List.map_nil]
          refine hK _ ?_
          clear hK K
          repeat (first | refine z12 rfl ?_ | refine z11 rfl ?_ | refine nx ?_ | (refine z10 fun K hK => ?_; simp (maxSteps := 4000000) only [go_sem, hw]; refine hK _ ?_; clear hK K))
          refine ⟨rfl, (d + 1, 2, c, v), ?_, ⟨hlt, hst, fun h => absurd (show 2 = 0 from h) (by decide), fun h => absurd (show d + 1 = 0 from h) (by omega), (by decide : 2 < 3)⟩, by dsimp only; omega⟩
          simp (maxSteps := 4000000) only [go_sem, nmL, lardRow]
          refine z13 [] ?_ ?_ rfl rfl <;> simp [lessT, lessM, lessB, AV.less]
          all_goals first | done | rfl | exact ⟨rfl, rfl⟩ | trace_state
      · have he : d = M.length := by (have : ¬ d < M.length := by simpa using hb); omega
        subst he
        obtain ⟨hD, hE⟩ := hlast rfl
        refine z20 [1] ?_
        simp (maxSteps := 4000000) only [go_sem]
        repeat (first | refine nx ?_ | (refine z10 fun K hK => ?_; simp (maxSteps := 4000000) only [go_sem]; refine hK _ ?_; clear hK K))
        simp (maxSteps := 4000000) only [go_sem, retG, runBlks, lardRow, hD, hE, hLA, ← hA0]
    · -- phase 2
      subst hp
      have hpos : d ≠ 0 := fun h => by have := hd0 h; omega
      have hLA := z104 hpos
      simp (maxSteps := 4000000) only [go_sem, nmL, lardRow]
      repeat (first | refine nx ?_ | (refine z10 fun K hK => ?_; simp (maxSteps := 4000000) only [go_sem]; refine hK _ ?_; clear hK K))
      refine z14 rfl (fun hb => ?_) (fun hb => ?_)
      · have hlt : d < M.length := by simpa using hb
        have hw : IntKind.i64.wrap ((d : Int) + 1) = ((d + 1 : Nat) : Int) := by rw [z16 (by omega)]; simp
        obtain ⟨r, hr⟩ : ∃ r, M[d]? = some r := ⟨_, List.getElem?_eq_getElem hlt⟩
        obtain ⟨hdd, hrl, hday⟩ := z109 hg hM hc hr
        have g1 := z33 hr
        have hni : ¬ ((d : Int) < 0) := by omega
        have hnd : needD k M cnt d = needL k r (cnt d) := by rw [needD, List.getD, hr]; rfl
        have hst := hstep hlt
        have hsp := hstop hlt
        rw [hnd] at hst
        have h86 := z898 k hbl (d : Int) l (ordK k) w hll hla ⟨hw0, hw2⟩
        obtain ⟨c1, c2, c3⟩ := z42 (k := k) (day := (d : Int)) (w := w) hla k.batches.length
        have c4 := z32 k (d : Int) l w k.batches.length
        change runSt k M cnt (d + 1) = (takeTo k (ordK k) (needL k r (cnt d)) (clrTo k (d : Int) l w k.batches.length).1 k.allerg.length).map fun c => (c, (clrTo k (d : Int) l w k.batches.length).2) at hst
        change runSt k M cnt (d + 1) = none → lastD k M cnt M.length = d ∧ endSt k M cnt = clrTo k (d : Int) l w k.batches.length at hsp
        obtain ⟨⟨C, v⟩, hC⟩ : ∃ a, a = clrTo k (d : Int) l w k.batches.length := ⟨_, rfl⟩
        rw [← hC] at h86 c1 c2 c3 c4 hst hsp
        dsimp only at c1 c2 c3 c4 hst
        have h87 := (z897 k hg r (cnt d) 84 [.ptr [.fn 56 [.ptr [.sl (listRows N)] 0]] 0, .ptr [.i (d : Int)] 0] hday (fun j hj => hf84 d j hdd (by omega))).deep
        have h141 := z958 k (needL k r (cnt d)) C (ordK k) v (by omega) hbl c1 (z48 hg hday) (by rw [z43]; exact hgo.2) (fun x hx => z41 hx) (by rw [z88]; exact hbl)
        rw [z43] at h141
        simp only [lardRow] at h86
        rw [Kitchen.cells] at h87
        obtain ⟨NE, hNE⟩ : ∃ NE, NE = needL k r (cnt d) := ⟨_, rfl⟩
        rw [← hNE] at h87 h141 hst
        repeat refine nx ?_
        refine z10 fun K hK => ?_
        simp (maxSteps := 4000000) only [go_sem, g1, hni]
        refine hK _ ?_
        clear hK K
        refine z20 [7] ?_
        simp (maxSteps := 4000000) only [go_sem]
        repeat refine nx ?_
        refine z10 fun K hK => ?_
        simp (maxSteps := 4000000) only [go_sem]
        refine ⟨_, .own (ns := [33, 2, 35]) (news := []) (bads := [2, 35]) (rd := []) (hf := h86) (hnd := by decide) (hl0 := rfl) (hl1 := rfl) (hm := by repeat (first | exact trivial | refine And.intro ?_ ?_ | rfl)) (hnew := rfl) (hla := rfl) (ha := z26 (by repeat (first | exact trivial | refine And.intro ?_ ?_ | exact z27 rfl | exact z22 rfl rfl))) (hrd := rfl) (hsh := z23 _) (hb := rfl) (hfl := .inl rfl), ?_⟩
        simp (maxSteps := 4000000) only [go_sem, List.map_cons, List.map_nil]
        refine hK _ ?_
        clear hK K
        cases htk : takeTo k (ordK k) NE C k.allerg.length with
        | none =>
          rw [htk] at h141 hst
          obtain ⟨hD, hE⟩ := hsp hst
          simp only [takeBlks, lardRow, Option.isSome_none] at h141
          repeat refine nx ?_
          refine z10 fun K hK => ?_
          simp (maxSteps := 4000000) only [go_sem]
          refine ⟨_, .given (hf := h87) (hd := rfl) (ha := rfl), ?_⟩
          simp (maxSteps := 4000000) only [go_sem]
          refine ⟨_, .own (ns := [33, 2, 35]) (news := []) (bads := [2, 35]) (rd := []) (hf := h141) (hnd := by decide) (hl0 := rfl) (hl1 := rfl) (hm := by repeat (first | exact trivial | refine And.intro ?_ ?_ | rfl)) (hnew := rfl) (hla := rfl) (ha := z26 (by repeat (first | exact trivial | refine And.intro ?_ ?_ | exact z27 rfl | exact z22 rfl rfl))) (hrd := rfl) (hsh := z23 _) (hb := rfl) (hfl := .inl rfl), ?_⟩
          simp (maxSteps := 4000000) only [go_sem, List.map_cons, List.map_nil]
          refine hK _ ?_
          clear hK K
          repeat (first | refine nx ?_ | (refine z10 fun K hK => ?_; simp (maxSteps := 4000000) only [go_sem]; refine hK _ ?_; clear hK K))
          refine z20 [2] ?_
          simp (maxSteps := 4000000) only [go_sem]
          repeat (first | refine z12 rfl ?_ | refine z11 rfl ?_ | refine nx ?_ | (refine z10 fun K hK => ?_; simp (maxSteps := 4000000) only [go_sem]; refine hK _ ?_; clear hK K))
          simp (maxSteps := 4000000) only [go_sem, retG, runBlks, lardRow, hD, hE, hLA, ← hA0]
        | some c =>
          rw [htk] at h141 hst
          simp only [takeBlks, lardRow, Option.isSome_some] at h141
          repeat refine nx ?_
          refine z10 fun K hK => ?_
          simp (maxSteps := 4000000) only [go_sem]
          refine ⟨_, .given (hf := h87) (hd := rfl) (ha := rfl), ?_⟩
          simp (maxSteps := 4000000) only [go_sem]
          refine ⟨_, .own (ns := [33, 2, 35]) (news := [1]) (bads := [2, 35]) (rd := []) (hf := h141) (hnd := by decide) (hl0 := rfl) (hl1 := rfl) (hm := by repeat (first | exact trivial | refine And.intro ?_ ?_ | rfl)) (hnew := rfl) (hla := rfl) (ha := z26 (by repeat (first | exact trivial | refine And.intro ?_ ?_ | exact z27 rfl | exact z22 rfl rfl))) (hrd := rfl) (hsh := z23 _) (hb := rfl) (hfl := .inl rfl), ?_⟩
          simp (maxSteps := 4000000) only [go_sem, List.map_cons, List.map_nil]
          refine hK _ ?_
          clear hK K
          repeat (first | refine z12 rfl ?_ | refine z11 rfl ?_ | refine nx ?_ | (refine z10 fun K hK => ?_; simp (maxSteps := 4000000) only [go_sem, hw]; refine hK _ ?_; clear hK K))
          refine ⟨rfl, (d + 1, 1, c, v), ?_, ⟨hlt, hst, fun h => absurd (show 1 = 0 from h) (by decide), fun h => absurd (show d + 1 = 0 from h) (by omega), (by decide : 1 < 3)⟩, by dsimp only; omega⟩
          simp (maxSteps := 4000000) only [go_sem, nmL, lardRow]
          refine z13 [] ?_ ?_ rfl rfl <;> simp [lessT, lessM, lessB, AV.less]
          all_goals first | done | rfl | exact ⟨rfl, rfl⟩ | trace_state
      · have he : d = M.length := by (have : ¬ d < M.length := by simpa using hb); omega
        subst he
        obtain ⟨hD, hE⟩ := hlast rfl
        refine z20 [2] ?_
        simp (maxSteps := 4000000) only [go_sem]
        repeat (first | refine nx ?_ | (refine z10 fun K hK => ?_; simp (maxSteps := 4000000) only [go_sem]; refine hK _ ?_; clear hK K))
        simp (maxSteps := 4000000) only [go_sem, retG, runBlks, lardRow, hD, hE, hLA, ← hA0]
end Go.Ab
namespace Go.Ab
open Go.RowKit Go.Proofs
set_option maxHeartbeats 16000000
set_option maxRecDepth 20000
attribute [local irreducible] WalkL Walk
def cookE (k : Kitchen) (M C : List (List Int)) : Int := if openK k M = 0 then (if shapedB countB C k.days then 0 else 72) else openK k M
def cookP (k : Kitchen) (M C : List (List Int)) : List Int × Int × Nat × Int :=
  if cookE k M C = 0 then ((endSt k M (cntOf C)).1, (endSt k M (cntOf C)).2, lastD k M (cntOf C) M.length, 0) else ([], 0, 0, cookE k M C)
theorem z853 {k : Kitchen} {M : List (List Int)} (h0 : openK k M = 0) : KitGood k ∧ shapedB (menuB k) M k.days = true := by
  unfold openK at h0
  split at h0
  · rename_i hz
    split at h0
    · exact ⟨z175 (z162.1 hz), by assumption⟩
    · cases h0
  · contradiction
theorem z1106 (k : Kitchen) (M C : List (List Int)) (hs : KitSmall k) (hM : M.length < 2 ^ 30) (hMr : ∀ r ∈ M, r.length < 2 ^ 30) (hC : C.length < 2 ^ 30) (hCr : ∀ r ∈ C, r.length < 2 ^ 30) :
    Fn Try.prog 25 [.agg k.cells, .sl (listRows M), .sl (listRows C)] (.tup [.sl (intRows (cookP k M C).1), .i (cookP k M C).2.1, .i ((cookP k M C).2.2.1 : Nat), .i (cookP k M C).2.2.2]) := by
  have h48 := z1037 k M hs hM hMr
  unfold cookP cookE
  by_cases h0 : ¬ openK k M = 0
  · have hb : (openK k M == 0) = false := by simpa using h0
    have hb2 : (openK k M != 0) = true := by simpa using h0
    rw [if_neg h0, if_neg h0]
    rw [Kitchen.cells] at h48 ⊢
    dsimp only
    refine z18 44 Try.call25 Try.func25 rfl (by decide) fun J => ?_
    simp (maxSteps := 4000000) only [go_sem, St.start, Try.ntmps25, Try.results25]
    repeat (first | refine z12 rfl ?_ | refine z11 rfl ?_ | refine nx ?_ | (refine z10 fun K hK => ?_; simp (maxSteps := 4000000) only [go_sem, hb, hb2]; (repeat (first | (refine ⟨_, .lent (hf := h48) (hd := rfl) (hr := rfl), ?_⟩; simp (maxSteps := 4000000) only [go_sem, hb, hb2]) | (refine ⟨_, .given (hf := h48) (hd := rfl) (ha := rfl), ?_⟩; simp (maxSteps := 4000000) only [go_sem, hb, hb2]))); refine hK _ ?_; clear hK K))
    simp (maxSteps := 4000000) only [go_sem, intRows, List.map_nil]
  have h0 : openK k M = 0 := Decidable.not_not.1 h0
  obtain ⟨hg, hsh⟩ := z853 h0
  have h52 := z1036 k hg C hC hCr
  rw [if_pos h0]
  rw [h0] at h48
  cases hc : shapedB countB C k.days with
  | false =>
    rw [hc] at h52
    rw [if_neg (by decide : ¬ (if false = true then (0 : Int) else 72) = 0), if_neg (by decide : ¬ false = true)]
    rw [Kitchen.cells] at h48 h52 ⊢
    refine z18 44 Try.call25 Try.func25 rfl (by decide) fun J => ?_
    simp (maxSteps := 4000000) only [go_sem, St.start, Try.ntmps25, Try.results25]
    repeat (first | refine z12 rfl ?_ | refine z11 rfl ?_ | refine nx ?_ | (refine z10 fun K hK => ?_; simp (maxSteps := 4000000) only [go_sem]; (repeat (first | (refine ⟨_, .lent (hf := h48) (hd := rfl) (hr := rfl), ?_⟩; simp (maxSteps := 4000000) only [go_sem]) | (refine ⟨_, .lent (hf := h52) (hd := rfl) (hr := rfl), ?_⟩; simp (maxSteps := 4000000) only [go_sem]) | (refine ⟨_, .given (hf := h48) (hd := rfl) (ha := rfl), ?_⟩; simp (maxSteps := 4000000) only [go_sem]) | (refine ⟨_, .given (hf := h52) (hd := rfl) (ha := rfl), ?_⟩; simp (maxSteps := 4000000) only [go_sem]))); refine hK _ ?_; clear hK K))
    simp (maxSteps := 4000000) only [go_sem, intRows, List.map_nil]
  | true =>
    rw [hc] at h52
    rw [if_pos rfl, if_pos rfl]
    have h55 := z1034 k hg M hsh C hc
    have h41 : FnG Try.prog 41 [] [] (List.map AV.d [.agg k.cells]) _ _ := z1002 k hg.batches
    have hlen := hg.days
    have hMl := z37 hsh
    obtain ⟨D, hD⟩ : ∃ D, D = lastD k M (cntOf C) M.length := ⟨_, rfl⟩
    have he0 : D = 0 → (endSt k M (cntOf C)).1 = left0 k := fun h => by
      rw [endSt, ← hD, h, if_pos (by omega)]
      rfl
    rw [runBlks, ← hD] at h55
    rw [← hD]
    obtain ⟨⟨EL, EW⟩, hE⟩ : ∃ e, e = endSt k M (cntOf C) := ⟨_, rfl⟩
    rw [← hE] at h55 he0 ⊢
    dsimp only at h55 he0 ⊢
    simp only [lardRow] at h41 h55
    rw [Kitchen.cells] at h41 h48 h52 ⊢
    by_cases hz : D = 0
    · rw [z238 hz] at h55
      rw [← he0 hz] at h55
      refine z18 44 Try.call25 Try.func25 rfl (by decide) fun J => ?_
      simp (maxSteps := 4000000) only [go_sem, St.start, Try.ntmps25, Try.results25]
      repeat refine nx ?_
      refine z10 fun K hK => ?_
      simp (maxSteps := 4000000) only [go_sem]
      refine hK _ ?_
      clear hK K
      refine z20 [5] ?_
      simp (maxSteps := 4000000) only [go_sem]
      repeat (first | refine z12 rfl ?_ | refine z11 rfl ?_ | refine nx ?_ | (refine z10 fun K hK => ?_; simp (maxSteps := 4000000) only [go_sem]; (repeat (first | (refine ⟨_, .lent (hf := h48) (hd := rfl) (hr := rfl), ?_⟩; simp (maxSteps := 4000000) only [go_sem]) | (refine ⟨_, .lent (hf := h52) (hd := rfl) (hr := rfl), ?_⟩; simp (maxSteps := 4000000) only [go_sem]) | (refine ⟨_, .given (hf := h48) (hd := rfl) (ha := rfl), ?_⟩; simp (maxSteps := 4000000) only [go_sem]) | (refine ⟨_, .given (hf := h52) (hd := rfl) (ha := rfl), ?_⟩; simp (maxSteps := 4000000) only [go_sem]))); refine hK _ ?_; clear hK K))
      refine z10 fun K hK => ?_
      simp (maxSteps := 4000000) only [go_sem]
      refine ⟨_, .made (news := [30, 16, 17]) (hf := h41) (hd := rfl) (hn := by decide) (hl := rfl) (hnew := rfl) (hx := rfl), ?_⟩
      simp (maxSteps := 4000000) only [go_sem, List.map_cons, List.map_nil]
      refine hK _ ?_
      clear hK K
      repeat refine nx ?_
      refine z10 fun K hK => ?_
      simp (maxSteps := 4000000) only [go_sem]
      refine ⟨_, .own (ns := [30, 16, 17]) (news := []) (bads := [16, 17]) (rd := []) (hf := h55) (hnd := by decide) (hl0 := rfl) (hl1 := rfl) (hm := by repeat (first | exact trivial | refine And.intro ?_ ?_ | rfl)) (hnew := rfl) (hla := rfl) (ha := z26 (by repeat (first | exact trivial | refine And.intro ?_ ?_ | exact z27 rfl | exact z22 rfl rfl))) (hrd := rfl) (hsh := z23 _) (hb := rfl) (hfl := .inl rfl), ?_⟩
      simp (maxSteps := 4000000) only [go_sem, List.map_cons, List.map_nil]
      refine hK _ ?_
      clear hK K
      repeat refine nx ?_
      refine z17 (by kernel_rfl) (by kernel_rfl) fun K hK => ?_
      simp (maxSteps := 4000000) only [go_sem]
      refine ⟨by kernel_rfl, hK _ ?_⟩
      clear hK K
      repeat (first | refine nx ?_ | (refine z10 fun K hK => ?_; simp (maxSteps := 4000000) only [go_sem]; refine hK _ ?_; clear hK K))
      simp (maxSteps := 4000000) only [go_sem]
    · rw [z104 hz] at h55
      refine z18 44 Try.call25 Try.func25 rfl (by decide) fun J => ?_
      simp (maxSteps := 4000000) only [go_sem, St.start, Try.ntmps25, Try.results25]
      repeat refine nx ?_
      refine z10 fun K hK => ?_
      simp (maxSteps := 4000000) only [go_sem]
      refine hK _ ?_
      clear hK K
      refine z20 [5] ?_
      simp (maxSteps := 4000000) only [go_sem]
      repeat (first | refine z12 rfl ?_ | refine z11 rfl ?_ | refine nx ?_ | (refine z10 fun K hK => ?_; simp (maxSteps := 4000000) only [go_sem]; (repeat (first | (refine ⟨_, .lent (hf := h48) (hd := rfl) (hr := rfl), ?_⟩; simp (maxSteps := 4000000) only [go_sem]) | (refine ⟨_, .lent (hf := h52) (hd := rfl) (hr := rfl), ?_⟩; simp (maxSteps := 4000000) only [go_sem]) | (refine ⟨_, .given (hf := h48) (hd := rfl) (ha := rfl), ?_⟩; simp (maxSteps := 4000000) only [go_sem]) | (refine ⟨_, .given (hf := h52) (hd := rfl) (ha := rfl), ?_⟩; simp (maxSteps := 4000000) only [go_sem]))); refine hK _ ?_; clear hK K))
      refine z10 fun K hK => ?_
      simp (maxSteps := 4000000) only [go_sem]
      refine ⟨_, .made (news := [30, 16, 17]) (hf := h41) (hd := rfl) (hn := by decide) (hl := rfl) (hnew := rfl) (hx := rfl), ?_⟩
      simp (maxSteps := 4000000) only [go_sem, List.map_cons, List.map_nil]
      refine hK _ ?_
      clear hK K
      repeat refine nx ?_
      refine z10 fun K hK => ?_
      simp (maxSteps := 4000000) only [go_sem]
      refine ⟨_, .own (ns := [30, 16, 17]) (news := []) (bads := [16, 17]) (rd := []) (hf := h55) (hnd := by decide) (hl0 := rfl) (hl1 := rfl) (hm := by repeat (first | exact trivial | refine And.intro ?_ ?_ | rfl)) (hnew := rfl) (hla := rfl) (ha := z26 (by repeat (first | exact trivial | refine And.intro ?_ ?_ | exact z27 rfl | exact z22 rfl rfl))) (hrd := rfl) (hsh := z23 _) (hb := rfl) (hfl := .inl rfl), ?_⟩
      simp (maxSteps := 4000000) only [go_sem, List.map_cons, List.map_nil]
      refine hK _ ?_
      clear hK K
      repeat refine nx ?_
      refine z17 (by kernel_rfl) (by kernel_rfl) fun K hK => ?_
      simp (maxSteps := 4000000) only [go_sem]
      refine ⟨by kernel_rfl, hK _ ?_⟩
      clear hK K
      repeat (first | refine nx ?_ | (refine z10 fun K hK => ?_; simp (maxSteps := 4000000) only [go_sem]; refine hK _ ?_; clear hK K))
      simp (maxSteps := 4000000) only [go_sem]
theorem z1041 (a b : List Int) (ha : a.length < 2 ^ 30) : Fn Try.prog 21 [.sl (intRows a), .sl (intRows b)] (.bool (decide (a = b))) := by
  refine z18 26 Try.call21 Try.func21 rfl (by decide) fun J => ?_
  simp (maxSteps := 4000000) only [go_sem, St.start, Try.ntmps21, Try.results21]
  repeat (first | refine nx ?_ | (refine z10 fun K hK => ?_; simp (maxSteps := 4000000) only [go_sem, z19]; refine hK _ ?_; clear hK K))
  by_cases hl : a.length = b.length
  · have hne : ((a.length : Int) != (b.length : Int)) = false := by simp [hl]
    simp (maxSteps := 4000000) only [go_sem, hne]
    refine z11 rfl ?_
    repeat (first | refine nx ?_ | (refine z10 fun K hK => ?_; simp (maxSteps := 4000000) only [go_sem]; refine hK _ ?_; clear hK K))
    refine z15 (fun (i : Nat) => [(5, .d (.i i))]) (fun _ => []) (fun i => i ≤ a.length ∧ a.take i = b.take i) (fun i => a.length - i) 0 ?_ ⟨Nat.zero_le _, by simp⟩ ?_
    · simp (maxSteps := 4000000) only [go_sem]
      refine z13 [] ?_ ?_ rfl rfl <;> simp [lessT, lessM, lessB, AV.less]
    · intro i ⟨hi, heq⟩
      simp (maxSteps := 4000000) only [go_sem]
      repeat (first | refine nx ?_ | (refine z10 fun K hK => ?_; simp (maxSteps := 4000000) only [go_sem, z19]; refine hK _ ?_; clear hK K))
      refine z14 rfl (fun hb => ?_) (fun hb => ?_)
      · have hlt : i < a.length := by simpa using hb
        have hw : IntKind.i64.wrap ((i : Int) + 1) = ((i + 1 : Nat) : Int) := by rw [z16 (by omega)]; simp
        obtain ⟨x, hx⟩ : ∃ x, a[i]? = some x := ⟨_, List.getElem?_eq_getElem hlt⟩
        obtain ⟨y, hy⟩ : ∃ y, b[i]? = some y := ⟨_, List.getElem?_eq_getElem (hl ▸ hlt)⟩
        have g1 := z39 hx
        have g2 := z39 hy
        repeat (first | refine nx ?_ | (refine z10 fun K hK => ?_; simp (maxSteps := 4000000) only [go_sem]; refine hK _ ?_; clear hK K))
        refine z17 (by kernel_rfl) (by kernel_rfl) fun K hK => ?_
        simp (maxSteps := 4000000) only [go_sem, g1, g2]
        refine ⟨by kernel_rfl, hK _ ?_⟩
        clear hK K
        refine z14 rfl (fun hc => ?_) (fun hc => ?_)
        · have hc : ¬ x = y := by simpa using hc
          have hab : ¬ a = b := by rintro rfl; rw [hx] at hy; cases hy; exact hc rfl
          repeat (first | refine nx ?_ | (refine z10 fun K hK => ?_; simp (maxSteps := 4000000) only [go_sem]; refine hK _ ?_; clear hK K))
          simp (maxSteps := 4000000) only [go_sem, hab]
        · have hc : x = y := by simpa using hc
          repeat (first | refine nx ?_ | (refine z10 fun K hK => ?_; simp (maxSteps := 4000000) only [go_sem, hw]; refine hK _ ?_; clear hK K))
          refine ⟨rfl, i + 1, ?_, ⟨hlt, by rw [List.take_add_one, List.take_add_one, heq, hx, hy, hc]⟩, by omega⟩
          refine z13 [] ?_ ?_ rfl rfl <;> simp [lessT, lessM, lessB, AV.less]
      · have he : i = a.length := by (have : ¬ i < a.length := by simpa using hb); omega
        subst he
        have hab : a = b := z304 hl heq
        repeat (first | refine nx ?_ | (refine z10 fun K hK => ?_; simp (maxSteps := 4000000) only [go_sem]; refine hK _ ?_; clear hK K))
        simp (maxSteps := 4000000) only [go_sem, hab]
  · have hne : ((a.length : Int) != (b.length : Int)) = true := by simp; omega
    have hab : ¬ a = b := by rintro rfl; exact hl rfl
    simp (maxSteps := 4000000) only [go_sem, hne]
    refine z12 rfl ?_
    repeat (first | refine nx ?_ | (refine z10 fun K hK => ?_; simp (maxSteps := 4000000) only [go_sem]; refine hK _ ?_; clear hK K))
    simp (maxSteps := 4000000) only [go_sem, hab]
theorem z298 {a b : List (List Int)} (hl : a.length = b.length) (h : a.take a.length = b.take a.length) : a = b := by
  rw [List.take_length, hl, List.take_length] at h
  exact h
theorem z1109 (a b : List (List Int)) (ha : a.length < 2 ^ 30) (har : ∀ r ∈ a, r.length < 2 ^ 30) : Fn Try.prog 20 [.sl (listRows a), .sl (listRows b)] (.bool (decide (a = b))) := by
  refine z18 27 Try.call20 Try.func20 rfl (by decide) fun J => ?_
  simp (maxSteps := 4000000) only [go_sem, St.start, Try.ntmps20, Try.results20]
  repeat (first | refine nx ?_ | (refine z10 fun K hK => ?_; simp (maxSteps := 4000000) only [go_sem, z28]; refine hK _ ?_; clear hK K))
  by_cases hl : a.length = b.length
  · have hne : ((a.length : Int) != (b.length : Int)) = false := by simp [hl]
    simp (maxSteps := 4000000) only [go_sem, hne]
    refine z11 rfl ?_
    repeat (first | refine nx ?_ | (refine z10 fun K hK => ?_; simp (maxSteps := 4000000) only [go_sem]; refine hK _ ?_; clear hK K))
    refine z15 (fun (i : Nat) => [(5, .d (.i i))]) (fun _ => []) (fun i => i ≤ a.length ∧ a.take i = b.take i) (fun i => a.length - i) 0 ?_ ⟨Nat.zero_le _, by simp⟩ ?_
    · simp (maxSteps := 4000000) only [go_sem]
      refine z13 [] ?_ ?_ rfl rfl <;> simp [lessT, lessM, lessB, AV.less]
    · intro i ⟨hi, heq⟩
      simp (maxSteps := 4000000) only [go_sem]
      repeat (first | refine nx ?_ | (refine z10 fun K hK => ?_; simp (maxSteps := 4000000) only [go_sem, z28]; refine hK _ ?_; clear hK K))
      refine z14 rfl (fun hb => ?_) (fun hb => ?_)
      · have hlt : i < a.length := by simpa using hb
        have hw : IntKind.i64.wrap ((i : Int) + 1) = ((i + 1 : Nat) : Int) := by rw [z16 (by omega)]; simp
        obtain ⟨x, hx⟩ : ∃ x, a[i]? = some x := ⟨_, List.getElem?_eq_getElem hlt⟩
        obtain ⟨y, hy⟩ : ∃ y, b[i]? = some y := ⟨_, List.getElem?_eq_getElem (hl ▸ hlt)⟩
        have g1 := z33 hx
        have g2 := z33 hy
        have h21 := z1041 x y (har x (List.mem_of_getElem? hx))
        by_cases hc : x = y
        · have hd : decide (x = y) = true := decide_eq_true hc
          rw [hd] at h21
          repeat (first | refine nx ?_ | (refine z10 fun K hK => ?_; simp (maxSteps := 4000000) only [go_sem]; refine hK _ ?_; clear hK K))
          refine z17 (by kernel_rfl) (by kernel_rfl) fun K hK => ?_
          simp (maxSteps := 4000000) only [go_sem, g1, g2]
          refine ⟨_, .fn (hf := h21) (hd := rfl) (hr := .inl rfl), ?_⟩
          simp (maxSteps := 4000000) only [go_sem]
          refine ⟨by kernel_rfl, hK _ ?_⟩
          clear hK K
          repeat (first | refine z12 rfl ?_ | refine z11 rfl ?_ | refine nx ?_ | (refine z10 fun K hK => ?_; simp (maxSteps := 4000000) only [go_sem, hw]; refine hK _ ?_; clear hK K))
          refine ⟨rfl, i + 1, ?_, ⟨hlt, by rw [List.take_add_one, List.take_add_one, heq, hx, hy, hc]⟩, by omega⟩
          refine z13 [] ?_ ?_ rfl rfl <;> simp [lessT, lessM, lessB, AV.less]
        · have hd : decide (x = y) = false := decide_eq_false hc
          rw [hd] at h21
          have hab : ¬ a = b := by rintro rfl; rw [hx] at hy; cases hy; exact hc rfl
          repeat (first | refine nx ?_ | (refine z10 fun K hK => ?_; simp (maxSteps := 4000000) only [go_sem]; refine hK _ ?_; clear hK K))
          refine z17 (by kernel_rfl) (by kernel_rfl) fun K hK => ?_
          simp (maxSteps := 4000000) only [go_sem, g1, g2]
          refine ⟨_, .fn (hf := h21) (hd := rfl) (hr := .inl rfl), ?_⟩
          simp (maxSteps := 4000000) only [go_sem]
          refine ⟨by kernel_rfl, hK _ ?_⟩
          clear hK K
          repeat (first | refine z12 rfl ?_ | refine z11 rfl ?_ | refine nx ?_ | (refine z10 fun K hK => ?_; simp (maxSteps := 4000000) only [go_sem]; refine hK _ ?_; clear hK K))
          simp (maxSteps := 4000000) only [go_sem, hab]
      · have he : i = a.length := by (have : ¬ i < a.length := by simpa using hb); omega
        subst he
        have hab : a = b := z298 hl heq
        repeat (first | refine nx ?_ | (refine z10 fun K hK => ?_; simp (maxSteps := 4000000) only [go_sem]; refine hK _ ?_; clear hK K))
        simp (maxSteps := 4000000) only [go_sem, hab]
  · have hne : ((a.length : Int) != (b.length : Int)) = true := by simp; omega
    have hab : ¬ a = b := by rintro rfl; exact hl rfl
    simp (maxSteps := 4000000) only [go_sem, hne]
    refine z12 rfl ?_
    repeat (first | refine nx ?_ | (refine z10 fun K hK => ?_; simp (maxSteps := 4000000) only [go_sem]; refine hK _ ?_; clear hK K))
    simp (maxSteps := 4000000) only [go_sem, hab]
end Go.Ab
namespace Go.Ab
open Go.RowKit Go.Proofs
set_option maxHeartbeats 16000000
set_option maxRecDepth 20000
attribute [local irreducible] WalkL Walk
theorem z949 : cookP exK exM [[2, 1], [2, 1], [2, 1]] = ([0, 100, 1100], 200, 3, 0) := by decide +kernel
theorem z989 : kitE exK = 0 := by decide +kernel
theorem z883 : (planL exK 3).2 = [[0, 1], [0, 1], [1, 1]] := by decide +kernel
theorem z881 : wasteK exK = 0 := by decide +kernel
theorem z947 : planK exK = ([[0, 1], [0, 1], [1, 1]], 0, 0) := by
  have e : exK.days.length = 3 := rfl
  rw [planK, if_pos z989, z881, if_neg (by decide), e, z883]
theorem z1111 : Fn Try.prog 13 [] (.bool true) := by
  have h39 := z1102
  have h25 := z1106 exK exM [[2, 1], [2, 1], [2, 1]] z321 (by decide) (by decide) (by decide) (by decide)
  have h17 := z1062 exK exM z321 (by decide) (by decide)
  have h15 := z1110 exK z321
  have h21a := z1041 [0, 100, 1100] [0, 100, 1100] (by decide)
  have h21b := z1041 [300, 0] [300, 0] (by decide)
  have h20 := z1109 [[0, 1], [0, 1], [1, 1]] [[0, 1], [0, 1], [1, 1]] (by decide) (by decide)
  rw [z949] at h25
  rw [z947] at h15
  rw [z948, if_pos rfl, z882] at h17
  rw [show decide (([0, 100, 1100] : List Int) = [0, 100, 1100]) = true by decide] at h21a
  rw [show decide (([300, 0] : List Int) = [300, 0]) = true by decide] at h21b
  rw [show decide (([[0, 1], [0, 1], [1, 1]] : List (List Int)) = [[0, 1], [0, 1], [1, 1]]) = true by decide] at h20
  rw [Kitchen.cells] at h39 h25 h17 h15
  refine z18 80 Try.call13 Try.func13 rfl (by decide) fun J => ?_
  simp (maxSteps := 4000000) only [go_sem, St.start, Try.ntmps13, Try.results13]
  repeat (first | refine z12 rfl ?_ | refine z11 rfl ?_ | refine nx ?_ | (refine z10 fun K hK => ?_; simp (maxSteps := 4000000) only [go_sem]; (repeat (first | (refine ⟨_, .lent (hf := h39) (hd := rfl) (hr := rfl), ?_⟩; simp (maxSteps := 4000000) only [go_sem]) | (refine ⟨_, .lent (hf := h25) (hd := rfl) (hr := rfl), ?_⟩; simp (maxSteps := 4000000) only [go_sem]) | (refine ⟨_, .lent (hf := h17) (hd := rfl) (hr := rfl), ?_⟩; simp (maxSteps := 4000000) only [go_sem]) | (refine ⟨_, .lent (hf := h15) (hd := rfl) (hr := rfl), ?_⟩; simp (maxSteps := 4000000) only [go_sem]) | (refine ⟨_, .lent (hf := h21a) (hd := rfl) (hr := rfl), ?_⟩; simp (maxSteps := 4000000) only [go_sem]) | (refine ⟨_, .lent (hf := h21b) (hd := rfl) (hr := rfl), ?_⟩; simp (maxSteps := 4000000) only [go_sem]) | (refine ⟨_, .lent (hf := h20) (hd := rfl) (hr := rfl), ?_⟩; simp (maxSteps := 4000000) only [go_sem]) | (refine ⟨_, .given (hf := h39) (hd := rfl) (ha := rfl), ?_⟩; simp (maxSteps := 4000000) only [go_sem]) | (refine ⟨_, .given (hf := h25) (hd := rfl) (ha := rfl), ?_⟩; simp (maxSteps := 4000000) only [go_sem]) | (refine ⟨_, .given (hf := h17) (hd := rfl) (ha := rfl), ?_⟩; simp (maxSteps := 4000000) only [go_sem]) | (refine ⟨_, .given (hf := h15) (hd := rfl) (ha := rfl), ?_⟩; simp (maxSteps := 4000000) only [go_sem]) | (refine ⟨_, .given (hf := h21a) (hd := rfl) (ha := rfl), ?_⟩; simp (maxSteps := 4000000) only [go_sem]) | (refine ⟨_, .given (hf := h21b) (hd := rfl) (ha := rfl), ?_⟩; simp (maxSteps := 4000000) only [go_sem]) | (refine ⟨_, .given (hf := h20) (hd := rfl) (ha := rfl), ?_⟩; simp (maxSteps := 4000000) only [go_sem]))); refine hK _ ?_; clear hK K))
  simp (maxSteps := 4000000) only [go_sem]
end Go.Ab
namespace Go.Ab
open Go.RowKit Go.Proofs
set_option maxHeartbeats 8000000
set_option maxRecDepth 20000
attribute [local irreducible] WalkL Walk
theorem z811 (n lo hi : Int) : Fn Try.prog 51 [.i n, .i lo, .i hi] (.bool (withinB n lo hi)) := by
  unfold withinB
  refine z18 15 Try.call51 Try.func51 rfl (by decide) fun J => ?_
  simp (maxSteps := 4000000) only [go_sem, St.start, Try.ntmps51, Try.results51]
  cases q : decide (lo ≤ n)
  · repeat (first | refine nx ?_ | (refine z10 fun K hK => ?_; simp (maxSteps := 4000000) only [go_sem, q]; refine hK _ ?_; clear hK K))
    simp (maxSteps := 4000000) only [go_sem, Bool.false_and]
  · repeat (first | refine nx ?_ | (refine z10 fun K hK => ?_; simp (maxSteps := 4000000) only [go_sem, q]; refine hK _ ?_; clear hK K))
    simp (maxSteps := 4000000) only [go_sem, Bool.true_and]
theorem z1094 (k : Kitchen) (b : Batch) (hg : k.allerg.length < 2 ^ 30) : Fn Try.prog 60 [.agg k.cells, .agg b.row] (.bool (batchB k.allerg.length b)) := by
  have h1 := z811 b.good 0 ((k.allerg.length : Int) - 1)
  have h2 := z811 b.amount 0 1000000
  have h3 := z811 b.last 0 30
  have w : IntKind.i64.wrap ((k.allerg.length : Int) - 1) = (k.allerg.length : Int) - 1 := z16 (by omega)
  unfold batchB
  obtain ⟨b1, e1⟩ : ∃ x, x = withinB b.good 0 ((k.allerg.length : Int) - 1) := ⟨_, rfl⟩
  obtain ⟨b2, e2⟩ : ∃ x, x = withinB b.amount 0 1000000 := ⟨_, rfl⟩
  obtain ⟨b3, e3⟩ : ∃ x, x = withinB b.last 0 30 := ⟨_, rfl⟩
  rw [← e1] at h1 ⊢
  rw [← e2] at h2 ⊢
  rw [← e3] at h3 ⊢
  refine z18 22 Try.call60 Try.func60 rfl (by decide) fun J => ?_
  simp (maxSteps := 4000000) only [go_sem, St.start, Try.ntmps60, Try.results60, Batch.row, Kitchen.cells]
  cases b1 <;> cases b2
  all_goals
    repeat (first | refine nx ?_ | (refine z10 fun K hK => ?_; simp (maxSteps := 4000000) only [go_sem, w]; (repeat (first | (refine ⟨_, .lent (hf := h1) (hd := rfl) (hr := rfl), ?_⟩; simp (maxSteps := 4000000) only [go_sem, w]) | (refine ⟨_, .lent (hf := h2) (hd := rfl) (hr := rfl), ?_⟩; simp (maxSteps := 4000000) only [go_sem, w]) | (refine ⟨_, .lent (hf := h3) (hd := rfl) (hr := rfl), ?_⟩; simp (maxSteps := 4000000) only [go_sem, w]) | (refine ⟨_, .given (hf := h1) (hd := rfl) (ha := rfl), ?_⟩; simp (maxSteps := 4000000) only [go_sem, w]) | (refine ⟨_, .given (hf := h2) (hd := rfl) (ha := rfl), ?_⟩; simp (maxSteps := 4000000) only [go_sem, w]) | (refine ⟨_, .given (hf := h3) (hd := rfl) (ha := rfl), ?_⟩; simp (maxSteps := 4000000) only [go_sem, w]))); refine hK _ ?_; clear hK K))
    simp (maxSteps := 4000000) only [go_sem, Bool.false_and, Bool.true_and]
theorem z1093 (k : Kitchen) (d : Dish) (hg : k.allerg.length < 2 ^ 30) (hd : d.needs.length < 2 ^ 30) : Fn Try.prog 61 [.agg k.cells, .agg d.row] (.bool (dishB k.allerg.length d)) := by
  unfold dishB
  obtain ⟨R, hR⟩ : ∃ R, R = (((d.needs.length : Int) == (k.allerg.length : Int)) && d.needs.all needB) := ⟨_, rfl⟩
  rw [← hR]
  obtain ⟨N, hN⟩ : ∃ N, N = d.needs := ⟨_, rfl⟩
  rw [← hN] at hd hR
  refine z18 27 Try.call61 Try.func61 rfl (by decide) fun J => ?_
  simp (maxSteps := 4000000) only [go_sem, St.start, Try.ntmps61, Try.results61, Dish.row, Kitchen.cells]
  rw [← hN]
  repeat (first | refine nx ?_ | (refine z10 fun K hK => ?_; simp (maxSteps := 4000000) only [go_sem]; refine hK _ ?_; clear hK K))
  refine z15 (fun (i : Nat) => [(5, .d (.i (i : Int)))]) (fun _ => []) (fun i => i ≤ N.length ∧ N.all needB = (N.drop i).all needB) (fun i => N.length - i) 0 ?_ ⟨Nat.zero_le _, rfl⟩ ?_
  · simp (maxSteps := 4000000) only [go_sem]
    refine z13 [] ?_ ?_ rfl rfl <;> simp [lessT, lessM, lessB, AV.less]
  · rintro i ⟨hi, z47⟩
    simp (maxSteps := 4000000) only [go_sem]
    repeat (first | refine nx ?_ | (refine z10 fun K hK => ?_; simp (maxSteps := 4000000) only [go_sem]; refine hK _ ?_; clear hK K))
    refine z14 rfl (fun hb => ?_) (fun hb => ?_)
    · have hlt : i < N.length := by simpa using hb
      have hw : IntKind.i64.wrap ((i : Int) + 1) = ((i + 1 : Nat) : Int) := by rw [z16 (by omega)]; simp
      obtain ⟨x, hx⟩ : ∃ x, N[i]? = some x := ⟨_, List.getElem?_eq_getElem hlt⟩
      have g1 := z39 hx
      have hni : ¬ ((i : Int) < 0) := by omega
      have hc := z811 x 0 5000
      rw [z31 hx, List.all_cons] at z47
      cases q : needB x
      · rw [q, Bool.false_and] at z47
        rw [z47, Bool.and_false] at hR
        rw [needB] at q
        rw [q] at hc
        repeat (first | refine z12 rfl ?_ | refine z11 rfl ?_ | refine nx ?_ | (refine z10 fun K hK => ?_; simp (maxSteps := 4000000) only [go_sem, g1, hni]; (repeat (first | (refine ⟨_, .lent (hf := hc) (hd := rfl) (hr := rfl), ?_⟩; simp (maxSteps := 4000000) only [go_sem, g1, hni]) | (refine ⟨_, .given (hf := hc) (hd := rfl) (ha := rfl), ?_⟩; simp (maxSteps := 4000000) only [go_sem, g1, hni]))); refine hK _ ?_; clear hK K))
        simp (maxSteps := 4000000) only [go_sem, hR]
      · rw [q, Bool.true_and] at z47
        rw [needB] at q
        rw [q] at hc
        repeat (first | refine z12 rfl ?_ | refine z11 rfl ?_ | refine nx ?_ | (refine z10 fun K hK => ?_; simp (maxSteps := 4000000) only [go_sem, g1, hni, hw]; (repeat (first | (refine ⟨_, .lent (hf := hc) (hd := rfl) (hr := rfl), ?_⟩; simp (maxSteps := 4000000) only [go_sem, g1, hni, hw]) | (refine ⟨_, .given (hf := hc) (hd := rfl) (ha := rfl), ?_⟩; simp (maxSteps := 4000000) only [go_sem, g1, hni, hw]))); refine hK _ ?_; clear hK K))
        refine ⟨rfl, i + 1, ?_, ⟨hlt, z47⟩, by omega⟩
        refine z13 [] ?_ ?_ rfl rfl <;> simp [lessT, lessM, lessB, AV.less]
    · have he : i = N.length := by (have : ¬ i < N.length := by simpa using hb); omega
      subst he
      rw [List.drop_length, List.all_nil] at z47
      rw [z47, Bool.and_true] at hR
      repeat (first | refine nx ?_ | (refine z10 fun K hK => ?_; simp (maxSteps := 4000000) only [go_sem]; refine hK _ ?_; clear hK K))
      simp (maxSteps := 4000000) only [go_sem, hR]
def badK1 (k : Kitchen) : Bool := !withinB (k.allerg.length : Int) 1 6 || (decide ((k.batches.length : Int) > 10) || (!withinB (k.dishes.length : Int) 1 5 || !withinB (k.days.length : Int) 1 6))
theorem z938 {k : Kitchen} (h : badKit k = true) : kitE k = 70 := by rw [kitE, h]; rfl
theorem z868 {k : Kitchen} (h : badKit k = false) : kitE k = 0 := by rw [kitE, h]; rfl
def badG (g : Diners) : Bool := !withinB g.no 0 255 || (!withinB g.count.lo 0 g.count.hi || decide (g.count.hi > 100))
theorem z874 (g : Diners) : groupB g = !badG g := by
  unfold groupB badG setB withinB
  rw [Bool.eq_iff_iff]
  simp
  intro _ _
  exact and_assoc.symm
theorem z1059 (k : Kitchen) (hs : KitSmall k) : Fn Try.prog 32 [.agg k.cells] (.i (kitE k)) := by
  have a1 := hs.allerg
  have h1 := z811 (k.allerg.length : Int) 1 6
  have h5 := z811 (k.dishes.length : Int) 1 5
  have h7 := z811 (k.days.length : Int) 1 6
  have h92 := fun b => z1094 k b a1
  have h93 := fun d hd => z1093 k d a1 hd
  have a2 := hs.batches
  have a3 := hs.dishes
  have a4 := hs.needs
  have a5 := hs.days
  have a6 := hs.groups
  have kB : badKit k = (badK1 k || (!k.allerg.all setB || (!k.batches.all (batchB k.allerg.length) || (!k.dishes.all (dishB k.allerg.length) || !k.days.all dayB)))) := by
    unfold badKit badK1
    cases withinB (k.allerg.length : Int) 1 6 <;> cases decide ((k.batches.length : Int) > 10) <;> cases withinB (k.dishes.length : Int) 1 5 <;> cases withinB (k.days.length : Int) 1 6 <;> simp
  have kb := @z938 k
  have kg := @z868 k
  rw [kB] at kb kg
  obtain ⟨E, hE⟩ : ∃ E, E = kitE k := ⟨_, rfl⟩
  rw [← hE] at kb kg ⊢
  rw [Kitchen.cells] at h92 h93
  refine z18 130 Try.call32 Try.func32 rfl (by decide) fun J => ?_
  simp (maxSteps := 4000000) only [go_sem, St.start, Try.ntmps32, Try.results32, Kitchen.cells]
  repeat (first | refine nx ?_ | (refine z10 fun K hK => ?_; simp (maxSteps := 4000000) only [go_sem]; refine hK _ ?_; clear hK K))
  refine z130 [(33, .d (.bool (badK1 k)))] [] ?_ ?_
  · refine z10 fun K hK => ?_
    simp (maxSteps := 4000000) only [go_sem]
    refine ⟨_, .lent (hf := h1) (hd := rfl) (hr := rfl), ?_⟩
    simp (maxSteps := 4000000) only [go_sem]
    by_cases ho0 : (!withinB (k.allerg.length : Int) 1 6) = true
    · simp (maxSteps := 4000000) only [go_sem, ho0]
      refine hK _ ?_
      clear hK K
      refine z34 ?_
      refine z25 ?_
      refine ⟨rfl, ?_⟩
      rw [show (badK1 k) = (true) from by simp [badK1, ho0]]
      simp (maxSteps := 4000000) only [go_sem]
      refine z13 [] ?_ ?_ rfl rfl <;> simp [lessT, lessM, lessB, AV.less]
    · simp (maxSteps := 4000000) only [go_sem, ho0]
      by_cases ho1 : (decide ((k.batches.length : Int) > 10)) = true
      · simp (maxSteps := 4000000) only [go_sem, ho0, ho1]
        refine hK _ ?_
        clear hK K
        refine z34 ?_
        refine z25 ?_
        refine ⟨rfl, ?_⟩
        rw [show (badK1 k) = (true) from by simp [badK1, ho0, ho1]]
        simp (maxSteps := 4000000) only [go_sem]
        refine z13 [] ?_ ?_ rfl rfl <;> simp [lessT, lessM, lessB, AV.less]
      · simp (maxSteps := 4000000) only [go_sem, ho0, ho1]
        refine ⟨_, .lent (hf := h5) (hd := rfl) (hr := rfl), ?_⟩
        simp (maxSteps := 4000000) only [go_sem, ho0, ho1]
        by_cases ho2 : (!withinB (k.dishes.length : Int) 1 5) = true
        · simp (maxSteps := 4000000) only [go_sem, ho0, ho1, ho2]
          refine hK _ ?_
          clear hK K
          refine z34 ?_
          refine z25 ?_
          refine ⟨rfl, ?_⟩
          rw [show (badK1 k) = (true) from by simp [badK1, ho0, ho1, ho2]]
          simp (maxSteps := 4000000) only [go_sem]
          refine z13 [] ?_ ?_ rfl rfl <;> simp [lessT, lessM, lessB, AV.less]
        · simp (maxSteps := 4000000) only [go_sem, ho0, ho1, ho2]
          refine ⟨_, .lent (hf := h7) (hd := rfl) (hr := rfl), ?_⟩
          simp (maxSteps := 4000000) only [go_sem, ho0, ho1, ho2]
          refine hK _ ?_
          clear hK K
          refine z34 ?_
          refine z25 ?_
          refine ⟨rfl, ?_⟩
          rw [show (badK1 k) = (!withinB (k.days.length : Int) 1 6) from by simp [badK1, ho0, ho1, ho2]]
          simp (maxSteps := 4000000) only [go_sem]
          refine z13 [] ?_ ?_ rfl rfl <;> simp [lessT, lessM, lessB, AV.less]
  simp (maxSteps := 4000000) only [go_sem]
  repeat (first | refine nx ?_ | (refine z10 fun K hK => ?_; simp (maxSteps := 4000000) only [go_sem]; refine hK _ ?_; clear hK K))
  refine z14 rfl (fun hc => ?_) (fun hc => ?_)
  · rw [hc, Bool.true_or] at kb
    have kb := kb rfl
    subst kb
    rw [hc]
    repeat (first | refine nx ?_ | (refine z10 fun K hK => ?_; simp (maxSteps := 4000000) only [go_sem]; refine hK _ ?_; clear hK K))
    simp (maxSteps := 4000000) only [go_sem, if_true]
  · rw [hc, Bool.false_or] at kb kg
    rw [hc]
    repeat (first | refine nx ?_ | (refine z10 fun K hK => ?_; simp (maxSteps := 4000000) only [go_sem]; refine hK _ ?_; clear hK K))
    refine z15 (fun (i : Nat) => [(3, .d (.i (i : Int)))]) (fun _ => []) (fun i => i ≤ k.allerg.length ∧ k.allerg.all (setB) = (k.allerg.drop i).all (setB)) (fun i => k.allerg.length - i) 0 ?_ ⟨Nat.zero_le _, rfl⟩ ?_
    · simp (maxSteps := 4000000) only [go_sem]
      refine z13 [] ?_ ?_ rfl rfl <;> simp [lessT, lessM, lessB, AV.less]
    · rintro i ⟨hi, z47⟩
      simp (maxSteps := 4000000) only [go_sem]
      repeat (first | refine nx ?_ | (refine z10 fun K hK => ?_; simp (maxSteps := 4000000) only [go_sem]; refine hK _ ?_; clear hK K))
      refine z14 rfl (fun hb => ?_) (fun hb => ?_)
      · have hlt : i < k.allerg.length := by simpa using hb
        have hw : IntKind.i64.wrap ((i : Int) + 1) = ((i + 1 : Nat) : Int) := by rw [z16 (by omega)]; simp
        obtain ⟨x, hx⟩ : ∃ x, k.allerg[i]? = some x := ⟨_, List.getElem?_eq_getElem hlt⟩
        have g1 := z39 hx
        have hni : ¬ ((i : Int) < 0) := by omega
        have hc := z811 x 0 255
        rw [z31 hx, List.all_cons] at z47
        cases q : (setB) x
        · rw [q, Bool.false_and] at z47
          rw [z47] at kb
          have kb := kb rfl
          subst kb
          rw [setB] at q
          rw [q] at hc
          repeat (first | refine z12 rfl ?_ | refine z11 rfl ?_ | refine nx ?_ | (refine z10 fun K hK => ?_; simp (maxSteps := 4000000) only [go_sem, g1, hni]; (repeat (first | (refine ⟨_, .lent (hf := hc) (hd := rfl) (hr := rfl), ?_⟩; simp (maxSteps := 4000000) only [go_sem, g1, hni]) | (refine ⟨_, .given (hf := hc) (hd := rfl) (ha := rfl), ?_⟩; simp (maxSteps := 4000000) only [go_sem, g1, hni]))); refine hK _ ?_; clear hK K))
          simp (maxSteps := 4000000) only [go_sem]
        · rw [q, Bool.true_and] at z47
          rw [setB] at q
          rw [q] at hc
          repeat (first | refine z12 rfl ?_ | refine z11 rfl ?_ | refine nx ?_ | (refine z10 fun K hK => ?_; simp (maxSteps := 4000000) only [go_sem, g1, hni, hw]; (repeat (first | (refine ⟨_, .lent (hf := hc) (hd := rfl) (hr := rfl), ?_⟩; simp (maxSteps := 4000000) only [go_sem, g1, hni, hw]) | (refine ⟨_, .given (hf := hc) (hd := rfl) (ha := rfl), ?_⟩; simp (maxSteps := 4000000) only [go_sem, g1, hni, hw]))); refine hK _ ?_; clear hK K))
          refine ⟨rfl, i + 1, ?_, ⟨hlt, z47⟩, by omega⟩
          refine z13 [] ?_ ?_ rfl rfl <;> simp [lessT, lessM, lessB, AV.less]
      · have he : i = k.allerg.length := by (have : ¬ i < k.allerg.length := by simpa using hb); omega
        subst he
        rw [List.drop_length, List.all_nil] at z47
        rw [z47, Bool.not_true, Bool.false_or] at kb kg
        clear z47
        repeat (first | refine nx ?_ | (refine z10 fun K hK => ?_; simp (maxSteps := 4000000) only [go_sem]; refine hK _ ?_; clear hK K))
        refine z15 (fun (i : Nat) => [(4, .d (.i (i : Int)))]) (fun _ => []) (fun i => i ≤ k.batches.length ∧ k.batches.all (batchB k.allerg.length) = (k.batches.drop i).all (batchB k.allerg.length)) (fun i => k.batches.length - i) 0 ?_ ⟨Nat.zero_le _, rfl⟩ ?_
        · simp (maxSteps := 4000000) only [go_sem]
          refine z13 [] ?_ ?_ rfl rfl <;> simp [lessT, lessM, lessB, AV.less]
        · rintro i ⟨hi, z47⟩
          simp (maxSteps := 4000000) only [go_sem]
          repeat (first | refine nx ?_ | (refine z10 fun K hK => ?_; simp (maxSteps := 4000000) only [go_sem]; refine hK _ ?_; clear hK K))
          refine z14 rfl (fun hb => ?_) (fun hb => ?_)
          · have hlt : i < k.batches.length := by simpa using hb
            have hw : IntKind.i64.wrap ((i : Int) + 1) = ((i + 1 : Nat) : Int) := by rw [z16 (by omega)]; simp
            obtain ⟨x, hx⟩ : ∃ x, k.batches[i]? = some x := ⟨_, List.getElem?_eq_getElem hlt⟩
            have g1 := z250 hx
            have hni : ¬ ((i : Int) < 0) := by omega
            have hc := h92 x
            rw [Batch.row] at g1 hc
            rw [z31 hx, List.all_cons] at z47
            cases q : (batchB k.allerg.length) x
            · rw [q, Bool.false_and] at z47
              rw [z47] at kb
              have kb := kb rfl
              subst kb
              skip
              rw [q] at hc
              repeat (first | refine nx ?_ | (refine z10 fun K hK => ?_; simp (maxSteps := 4000000) only [go_sem]; refine hK _ ?_; clear hK K))
              refine z17 (by kernel_rfl) (by kernel_rfl) fun K hK => ?_
              simp (maxSteps := 4000000) only [go_sem, g1, hni]
              refine ⟨_, .fn (hf := hc) (hd := rfl) (hr := .inl rfl), ?_⟩
              simp (maxSteps := 4000000) only [go_sem]
              refine ⟨by kernel_rfl, hK _ ?_⟩
              clear hK K
              repeat (first | refine z12 rfl ?_ | refine z11 rfl ?_ | refine nx ?_ | (refine z10 fun K hK => ?_; simp (maxSteps := 4000000) only [go_sem]; refine hK _ ?_; clear hK K))
              simp (maxSteps := 4000000) only [go_sem]
            · rw [q, Bool.true_and] at z47
              skip
              rw [q] at hc
              repeat (first | refine nx ?_ | (refine z10 fun K hK => ?_; simp (maxSteps := 4000000) only [go_sem]; refine hK _ ?_; clear hK K))
              refine z17 (by kernel_rfl) (by kernel_rfl) fun K hK => ?_
              simp (maxSteps := 4000000) only [go_sem, g1, hni]
              refine ⟨_, .fn (hf := hc) (hd := rfl) (hr := .inl rfl), ?_⟩
              simp (maxSteps := 4000000) only [go_sem]
              refine ⟨by kernel_rfl, hK _ ?_⟩
              clear hK K
              repeat (first | refine z12 rfl ?_ | refine z11 rfl ?_ | refine nx ?_ | (refine z10 fun K hK => ?_; simp (maxSteps := 4000000) only [go_sem, hw]; refine hK _ ?_; clear hK K))
              refine ⟨rfl, i + 1, ?_, ⟨hlt, z47⟩, by omega⟩
              refine z13 [] ?_ ?_ rfl rfl <;> simp [lessT, lessM, lessB, AV.less]
          · have he : i = k.batches.length := by (have : ¬ i < k.batches.length := by simpa using hb); omega
            subst he
            rw [List.drop_length, List.all_nil] at z47
            rw [z47, Bool.not_true, Bool.false_or] at kb kg
            clear z47
            repeat (first | refine nx ?_ | (refine z10 fun K hK => ?_; simp (maxSteps := 4000000) only [go_sem]; refine hK _ ?_; clear hK K))
            refine z15 (fun (i : Nat) => [(5, .d (.i (i : Int)))]) (fun _ => []) (fun i => i ≤ k.dishes.length ∧ k.dishes.all (dishB k.allerg.length) = (k.dishes.drop i).all (dishB k.allerg.length)) (fun i => k.dishes.length - i) 0 ?_ ⟨Nat.zero_le _, rfl⟩ ?_
            · simp (maxSteps := 4000000) only [go_sem]
              refine z13 [] ?_ ?_ rfl rfl <;> simp [lessT, lessM, lessB, AV.less]
            · rintro i ⟨hi, z47⟩
              simp (maxSteps := 4000000) only [go_sem]
              repeat (first | refine nx ?_ | (refine z10 fun K hK => ?_; simp (maxSteps := 4000000) only [go_sem]; refine hK _ ?_; clear hK K))
              refine z14 rfl (fun hb => ?_) (fun hb => ?_)
              · have hlt : i < k.dishes.length := by simpa using hb
                have hw : IntKind.i64.wrap ((i : Int) + 1) = ((i + 1 : Nat) : Int) := by rw [z16 (by omega)]; simp
                obtain ⟨x, hx⟩ : ∃ x, k.dishes[i]? = some x := ⟨_, List.getElem?_eq_getElem hlt⟩
                have g1 := z108 hx
                have hni : ¬ ((i : Int) < 0) := by omega
                have hc := h93 x (a4 x (List.mem_of_getElem? hx))
                rw [Dish.row] at g1 hc
                rw [z31 hx, List.all_cons] at z47
                cases q : (dishB k.allerg.length) x
                · rw [q, Bool.false_and] at z47
                  rw [z47] at kb
                  have kb := kb rfl
                  subst kb
                  skip
                  rw [q] at hc
                  repeat (first | refine nx ?_ | (refine z10 fun K hK => ?_; simp (maxSteps := 4000000) only [go_sem]; refine hK _ ?_; clear hK K))
                  refine z17 (by kernel_rfl) (by kernel_rfl) fun K hK => ?_
                  simp (maxSteps := 4000000) only [go_sem, g1, hni]
                  refine ⟨_, .fn (hf := hc) (hd := rfl) (hr := .inl rfl), ?_⟩
                  simp (maxSteps := 4000000) only [go_sem]
                  refine ⟨by kernel_rfl, hK _ ?_⟩
                  clear hK K
                  repeat (first | refine z12 rfl ?_ | refine z11 rfl ?_ | refine nx ?_ | (refine z10 fun K hK => ?_; simp (maxSteps := 4000000) only [go_sem]; refine hK _ ?_; clear hK K))
                  simp (maxSteps := 4000000) only [go_sem]
                · rw [q, Bool.true_and] at z47
                  skip
                  rw [q] at hc
                  repeat (first | refine nx ?_ | (refine z10 fun K hK => ?_; simp (maxSteps := 4000000) only [go_sem]; refine hK _ ?_; clear hK K))
                  refine z17 (by kernel_rfl) (by kernel_rfl) fun K hK => ?_
                  simp (maxSteps := 4000000) only [go_sem, g1, hni]
                  refine ⟨_, .fn (hf := hc) (hd := rfl) (hr := .inl rfl), ?_⟩
                  simp (maxSteps := 4000000) only [go_sem]
                  refine ⟨by kernel_rfl, hK _ ?_⟩
                  clear hK K
                  repeat (first | refine z12 rfl ?_ | refine z11 rfl ?_ | refine nx ?_ | (refine z10 fun K hK => ?_; simp (maxSteps := 4000000) only [go_sem, hw]; refine hK _ ?_; clear hK K))
                  refine ⟨rfl, i + 1, ?_, ⟨hlt, z47⟩, by omega⟩
                  refine z13 [] ?_ ?_ rfl rfl <;> simp [lessT, lessM, lessB, AV.less]
              · have he : i = k.dishes.length := by (have : ¬ i < k.dishes.length := by simpa using hb); omega
                subst he
                rw [List.drop_length, List.all_nil] at z47
                rw [z47, Bool.not_true, Bool.false_or] at kb kg
                clear z47
                repeat (first | refine nx ?_ | (refine z10 fun K hK => ?_; simp (maxSteps := 4000000) only [go_sem]; refine hK _ ?_; clear hK K))
                refine z15 (fun (i : Nat) => [(6, .d (.i (i : Int))), (7, .undef), (8, .undef)]) (fun _ => []) (fun i => i ≤ k.days.length ∧ k.days.all dayB = (k.days.drop i).all dayB) (fun i => k.days.length - i) 0 ?_ ⟨Nat.zero_le _, rfl⟩ ?_
                · simp (maxSteps := 4000000) only [go_sem]
                  refine z13 [] ?_ ?_ rfl rfl <;> simp [lessT, lessM, lessB, AV.less]
                · rintro i ⟨hi, z47⟩
                  simp (maxSteps := 4000000) only [go_sem]
                  repeat (first | refine nx ?_ | (refine z10 fun K hK => ?_; simp (maxSteps := 4000000) only [go_sem]; refine hK _ ?_; clear hK K))
                  refine z14 rfl (fun hb => ?_) (fun hb => ?_)
                  · have hlt : i < k.days.length := by simpa using hb
                    have hw : IntKind.i64.wrap ((i : Int) + 1) = ((i + 1 : Nat) : Int) := by rw [z16 (by omega)]; simp
                    obtain ⟨x, hx⟩ : ∃ x, k.days[i]? = some x := ⟨_, List.getElem?_eq_getElem hlt⟩
                    have g1 := z69 hx
                    have hni : ¬ ((i : Int) < 0) := by omega
                    have hxl := a6 x (List.mem_of_getElem? hx)
                    rw [z31 hx, List.all_cons, dayB] at z47
                    cases q : decide ((x.length : Int) > 3)
                    · have q2 : decide ((x.length : Int) ≤ 3) = true := by simp at q ⊢; omega
                      rw [q2, Bool.true_and] at z47
                      have hx3 : x.length ≤ 3 := by simp at q2; omega
                      repeat (first | refine z12 rfl ?_ | refine z11 rfl ?_ | refine nx ?_ | (refine z10 fun K hK => ?_; simp (maxSteps := 4000000) only [go_sem, g1, hni, q]; refine hK _ ?_; clear hK K))
                      refine z15 (fun (j : Nat) => [(7, .d (.i (j : Int))), (8, .undef)]) (fun _ => []) (fun j => j ≤ x.length ∧ k.days.all dayB = ((x.drop j).all groupB && (k.days.drop (i + 1)).all dayB)) (fun j => x.length - j) 0 ?_ ⟨Nat.zero_le _, z47⟩ ?_
                      · simp (maxSteps := 4000000) only [go_sem]
                        refine z13 [] ?_ ?_ rfl rfl <;> simp [lessT, lessM, lessB, AV.less]
                      · rintro j ⟨hj, hallj⟩
                        simp (maxSteps := 4000000) only [go_sem]
                        repeat (first | refine nx ?_ | (refine z10 fun K hK => ?_; simp (maxSteps := 4000000) only [go_sem, g1, hni]; refine hK _ ?_; clear hK K))
                        refine z14 rfl (fun hb => ?_) (fun hb => ?_)
                        · have hltj : j < x.length := by simpa using hb
                          have hwj : IntKind.i64.wrap ((j : Int) + 1) = ((j + 1 : Nat) : Int) := by rw [z16 (by omega)]; simp
                          obtain ⟨y, hy⟩ : ∃ y, x[j]? = some y := ⟨_, List.getElem?_eq_getElem hltj⟩
                          have g3 := z68 hy
                          rw [Diners.row] at g3
                          have hnj : ¬ ((j : Int) < 0) := by omega
                          have c1 := z811 y.no 0 255
                          have c2 := z811 y.count.lo 0 y.count.hi
                          rw [z31 hy, List.all_cons, z874] at hallj
                          repeat (first | refine nx ?_ | (refine z10 fun K hK => ?_; simp (maxSteps := 4000000) only [go_sem, g1, hni, g3, hnj]; refine hK _ ?_; clear hK K))
                          refine z130 [(129, .d (.bool (badG y)))] [] ?_ ?_
                          · refine z10 fun K hK => ?_
                            simp (maxSteps := 4000000) only [go_sem]
                            refine ⟨_, .lent (hf := c1) (hd := rfl) (hr := rfl), ?_⟩
                            simp (maxSteps := 4000000) only [go_sem]
                            by_cases ho0 : (!withinB y.no 0 255) = true
                            · simp (maxSteps := 4000000) only [go_sem, ho0]
                              refine hK _ ?_
                              clear hK K
                              refine z34 ?_
                              refine z25 ?_
                              refine ⟨rfl, ?_⟩
                              rw [show (badG y) = (true) from by simp [badG, ho0]]
                              simp (maxSteps := 4000000) only [go_sem]
                              refine z13 [] ?_ ?_ rfl rfl <;> simp [lessT, lessM, lessB, AV.less]
                            · simp (maxSteps := 4000000) only [go_sem, ho0]
                              refine ⟨_, .lent (hf := c2) (hd := rfl) (hr := rfl), ?_⟩
                              simp (maxSteps := 4000000) only [go_sem, ho0]
                              by_cases ho1 : (!withinB y.count.lo 0 y.count.hi) = true
                              · simp (maxSteps := 4000000) only [go_sem, ho0, ho1]
                                refine hK _ ?_
                                clear hK K
                                refine z34 ?_
                                refine z25 ?_
                                refine ⟨rfl, ?_⟩
                                rw [show (badG y) = (true) from by simp [badG, ho0, ho1]]
                                simp (maxSteps := 4000000) only [go_sem]
                                refine z13 [] ?_ ?_ rfl rfl <;> simp [lessT, lessM, lessB, AV.less]
                              · simp (maxSteps := 4000000) only [go_sem, ho0, ho1]
                                refine hK _ ?_
                                clear hK K
                                refine z34 ?_
                                refine z25 ?_
                                refine ⟨rfl, ?_⟩
                                rw [show (badG y) = (decide (y.count.hi > 100)) from by simp [badG, ho0, ho1]]
                                simp (maxSteps := 4000000) only [go_sem]
                                refine z13 [] ?_ ?_ rfl rfl <;> simp [lessT, lessM, lessB, AV.less]
                          simp (maxSteps := 4000000) only [go_sem]
                          repeat (first | refine nx ?_ | (refine z10 fun K hK => ?_; simp (maxSteps := 4000000) only [go_sem]; refine hK _ ?_; clear hK K))
                          refine z14 rfl (fun hc => ?_) (fun hc => ?_)
                          · rw [hc, Bool.not_true, Bool.false_and, Bool.false_and] at hallj
                            rw [hallj] at kb
                            have kb := kb rfl
                            subst kb
                            rw [hc]
                            repeat (first | refine nx ?_ | (refine z10 fun K hK => ?_; simp (maxSteps := 4000000) only [go_sem]; refine hK _ ?_; clear hK K))
                            simp (maxSteps := 4000000) only [go_sem, if_true]
                          · rw [hc, Bool.not_false, Bool.true_and] at hallj
                            rw [hc]
                            repeat (first | refine nx ?_ | (refine z10 fun K hK => ?_; simp (maxSteps := 4000000) only [go_sem, hwj]; refine hK _ ?_; clear hK K))
                            refine ⟨rfl, j + 1, ?_, ⟨hltj, hallj⟩, by omega⟩
                            refine z13 [] ?_ ?_ rfl rfl <;> simp [lessT, lessM, lessB, AV.less]
                        · have he : j = x.length := by (have : ¬ j < x.length := by simpa using hb); omega
                          subst he
                          rw [List.drop_length, List.all_nil, Bool.true_and] at hallj
                          repeat (first | refine nx ?_ | (refine z10 fun K hK => ?_; simp (maxSteps := 4000000) only [go_sem, hw]; refine hK _ ?_; clear hK K))
                          refine ⟨rfl, i + 1, ?_, ⟨hlt, hallj⟩, by omega⟩
                          refine z13 [] ?_ ?_ rfl rfl <;> simp [lessT, lessM, lessB, AV.less]
                    · have q2 : decide ((x.length : Int) ≤ 3) = false := by simp at q ⊢; omega
                      rw [q2, Bool.false_and, Bool.false_and] at z47
                      rw [z47] at kb
                      have kb := kb rfl
                      subst kb
                      repeat (first | refine z12 rfl ?_ | refine z11 rfl ?_ | refine nx ?_ | (refine z10 fun K hK => ?_; simp (maxSteps := 4000000) only [go_sem, g1, hni, q]; refine hK _ ?_; clear hK K))
                      simp (maxSteps := 4000000) only [go_sem]
                  · have he : i = k.days.length := by (have : ¬ i < k.days.length := by simpa using hb); omega
                    subst he
                    rw [List.drop_length, List.all_nil] at z47
                    rw [z47] at kg
                    have kg := kg rfl
                    subst kg
                    repeat (first | refine nx ?_ | (refine z10 fun K hK => ?_; simp (maxSteps := 4000000) only [go_sem]; refine hK _ ?_; clear hK K))
                    simp (maxSteps := 4000000) only [go_sem]
end Go.Ab
namespace Go.Ab
open Go.RowKit Go.Proofs
set_option maxHeartbeats 8000000
set_option maxRecDepth 20000
attribute [local irreducible] WalkL Walk
theorem z1103 (k : Kitchen) (hg : KitGood k) (n : Nat) (no : Int) (hn : n < k.dishes.length) : Fn Try.prog 34 [.agg k.cells, .i (n : Int), .i no] (.bool (suitsB k (n : Int) no)) := by
  have gd := z460 hn
  have hl := z281 hg hn
  have hgo := hg.goods
  have hnn : ¬ ((n : Int) < 0) := by omega
  unfold suitsB
  obtain ⟨N, hN⟩ : ∃ N, N = (dishAt k (n : Int)).needs := ⟨_, rfl⟩
  rw [← hN] at gd hl ⊢
  refine z18 35 Try.call34 Try.func34 rfl (by decide) fun J => ?_
  simp (maxSteps := 4000000) only [go_sem, St.start, Try.ntmps34, Try.results34, Kitchen.cells]
  repeat (first | refine nx ?_ | (refine z10 fun K hK => ?_; simp (maxSteps := 4000000) only [go_sem]; refine hK _ ?_; clear hK K))
  refine z15 (fun (i : Nat) => [(7, .d (.i (i : Int)))]) (fun _ => []) (fun i => i ≤ k.allerg.length ∧ suitTo k.allerg N no i = true) (fun i => k.allerg.length - i) 0 ?_ ⟨Nat.zero_le _, rfl⟩ ?_
  · simp (maxSteps := 4000000) only [go_sem]
    refine z13 [] ?_ ?_ rfl rfl <;> simp [lessT, lessM, lessB, AV.less]
  · rintro i ⟨hi, hs⟩
    simp (maxSteps := 4000000) only [go_sem]
    repeat (first | refine nx ?_ | (refine z10 fun K hK => ?_; simp (maxSteps := 4000000) only [go_sem]; refine hK _ ?_; clear hK K))
    refine z14 rfl (fun hb => ?_) (fun hb => ?_)
    · have hlt : i < k.allerg.length := by simpa using hb
      have hw : IntKind.i64.wrap ((i : Int) + 1) = ((i + 1 : Nat) : Int) := by rw [z16 (by omega)]; simp
      have g1 := z21 (l := N) (i := i) (by omega)
      have g2 := z21 (l := k.allerg) (i := i) (by omega)
      have hni : ¬ ((i : Int) < 0) := by omega
      cases q1 : decide (getI N (i : Int) > 0)
      · have hbg : badGood k.allerg N no i = false := by rw [badGood, q1]; rfl
        repeat (first | refine z12 rfl ?_ | refine z11 rfl ?_ | refine nx ?_ | (refine z10 fun K hK => ?_; simp (maxSteps := 4000000) only [go_sem, gd, hnn, g1, q1, hni, hw]; refine hK _ ?_; clear hK K))
        refine ⟨rfl, i + 1, ?_, ⟨hlt, by rw [suitTo, hs, hbg]; rfl⟩, by omega⟩
        refine z13 [] ?_ ?_ rfl rfl <;> simp [lessT, lessM, lessB, AV.less]
      · cases q2 : (bAnd .i64 (getI k.allerg (i : Int)) no != 0)
        · have hbg : badGood k.allerg N no i = false := by rw [badGood, q2, Bool.and_false]
          repeat (first | refine z12 rfl ?_ | refine z11 rfl ?_ | refine nx ?_ | (refine z10 fun K hK => ?_; simp (maxSteps := 4000000) only [go_sem, gd, hnn, g1, g2, q1, q2, hni, hw]; refine hK _ ?_; clear hK K))
          refine ⟨rfl, i + 1, ?_, ⟨hlt, by rw [suitTo, hs, hbg]; rfl⟩, by omega⟩
          refine z13 [] ?_ ?_ rfl rfl <;> simp [lessT, lessM, lessB, AV.less]
        · have hbg : badGood k.allerg N no i = true := by rw [badGood, q1, q2]; rfl
          rw [z293 hbg (m := N.length) (by omega)]
          repeat (first | refine z12 rfl ?_ | refine z11 rfl ?_ | refine nx ?_ | (refine z10 fun K hK => ?_; simp (maxSteps := 4000000) only [go_sem, gd, hnn, g1, g2, q1, q2, hni]; refine hK _ ?_; clear hK K))
          simp (maxSteps := 4000000) only [go_sem]
    · have he : i = k.allerg.length := by (have : ¬ i < k.allerg.length := by simpa using hb); omega
      subst he
      rw [hl, hs]
      repeat (first | refine nx ?_ | (refine z10 fun K hK => ?_; simp (maxSteps := 4000000) only [go_sem]; refine hK _ ?_; clear hK K))
      simp (maxSteps := 4000000) only [go_sem]
theorem z1107 (k : Kitchen) (hg : KitGood k) (M : List (List Int)) (hM : M.length < 2 ^ 30) (hMr : ∀ r ∈ M, r.length < 2 ^ 30) : Fn Try.prog 23 [.agg k.cells, .sl (listRows M)] (.bool (shapedB (menuB k) M k.days)) := by
  obtain ⟨q, hqd⟩ : ∃ q, q = menuB k := ⟨_, rfl⟩
  have hq : ∀ (n : Int) (g : Diners), q n g = (withinB n 0 ((k.dishes.length : Int) - 1) && suitsB k n g.no) := fun n g => by rw [hqd]; rfl
  rw [← hqd]
  have hgr := hg.groups
  have hdl := hg.dishes
  have w : IntKind.i64.wrap ((k.dishes.length : Int) - 1) = (k.dishes.length : Int) - 1 := z16 (by omega)
  obtain ⟨R, hR⟩ : ∃ R, R = shapedB q M k.days := ⟨_, rfl⟩
  rw [← hR]
  cases q1 : ((M.length : Int) != (k.days.length : Int))
  · have hl : M.length = k.days.length := by
      simp only [bne_eq_false_iff_eq] at q1
      omega
    refine z18 74 Try.call23 Try.func23 rfl (by decide) fun J => ?_
    simp (maxSteps := 4000000) only [go_sem, St.start, Try.ntmps23, Try.results23, Kitchen.cells]
    repeat (first | refine z12 rfl ?_ | refine z11 rfl ?_ | refine nx ?_ | (refine z10 fun K hK => ?_; simp (maxSteps := 4000000) only [go_sem, q1, z28]; refine hK _ ?_; clear hK K))
    refine z15 (fun (i : Nat) => [(5, .d (.i (i : Int))), (6, .undef)]) (fun _ => []) (fun i => i ≤ M.length ∧ R = shapedB q (M.drop i) (k.days.drop i)) (fun i => M.length - i) 0 ?_ ⟨Nat.zero_le _, hR⟩ ?_
    · simp (maxSteps := 4000000) only [go_sem]
      refine z13 [] ?_ ?_ rfl rfl <;> simp [lessT, lessM, lessB, AV.less]
    · rintro i ⟨hi, hRi⟩
      simp (maxSteps := 4000000) only [go_sem]
      repeat (first | refine nx ?_ | (refine z10 fun K hK => ?_; simp (maxSteps := 4000000) only [go_sem, z28]; refine hK _ ?_; clear hK K))
      refine z14 rfl (fun hb => ?_) (fun hb => ?_)
      · have hlt : i < M.length := by simpa using hb
        have hw : IntKind.i64.wrap ((i : Int) + 1) = ((i + 1 : Nat) : Int) := by rw [z16 (by omega)]; simp
        obtain ⟨d, hd⟩ : ∃ d, k.days[i]? = some d := ⟨_, List.getElem?_eq_getElem (by omega)⟩
        obtain ⟨r, hr⟩ : ∃ r, M[i]? = some r := ⟨_, List.getElem?_eq_getElem (by omega)⟩
        have g1 := z69 hd
        have g2 := z33 hr
        have hni : ¬ ((i : Int) < 0) := by omega
        have hd3 := (hgr d (List.mem_of_getElem? hd)).1
        rw [z31 hd, z31 hr, shapedB] at hRi
        cases q2 : ((r.length : Int) != (d.length : Int))
        · have hrl : r.length = d.length := by
            simp only [bne_eq_false_iff_eq] at q2
            omega
          repeat (first | refine nx ?_ | (refine z10 fun K hK => ?_; simp (maxSteps := 4000000) only [go_sem]; refine hK _ ?_; clear hK K))
          refine z17 (by kernel_rfl) (by kernel_rfl) fun K hK => ?_
          simp (maxSteps := 4000000) only [go_sem, g1, g2, hni, q2]
          refine ⟨by kernel_rfl, hK _ ?_⟩
          clear hK K
          repeat (first | refine z12 rfl ?_ | refine z11 rfl ?_ | refine nx ?_ | (refine z10 fun K hK => ?_; simp (maxSteps := 4000000) only [go_sem]; refine hK _ ?_; clear hK K))
          refine z15 (fun (j : Nat) => [(6, .d (.i (j : Int)))]) (fun _ => []) (fun j => j ≤ r.length ∧ R = (rowOk q (r.drop j) (d.drop j) && shapedB q (M.drop (i + 1)) (k.days.drop (i + 1)))) (fun j => r.length - j) 0 ?_ ⟨Nat.zero_le _, hRi⟩ ?_
          · simp (maxSteps := 4000000) only [go_sem]
            refine z13 [] ?_ ?_ rfl rfl <;> simp [lessT, lessM, lessB, AV.less]
          · rintro j ⟨hj, hRj⟩
            simp (maxSteps := 4000000) only [go_sem]
            repeat (first | refine nx ?_ | (refine z10 fun K hK => ?_; simp (maxSteps := 4000000) only [go_sem, g2, hni]; refine hK _ ?_; clear hK K))
            refine z14 rfl (fun hb => ?_) (fun hb => ?_)
            · have hltj : j < r.length := by simpa using hb
              have hwj : IntKind.i64.wrap ((j : Int) + 1) = ((j + 1 : Nat) : Int) := by rw [z16 (by omega)]; simp
              obtain ⟨g, hgj⟩ : ∃ g, d[j]? = some g := ⟨_, List.getElem?_eq_getElem (by omega)⟩
              obtain ⟨n, hnj⟩ : ∃ n, r[j]? = some n := ⟨_, List.getElem?_eq_getElem (by omega)⟩
              have g3 := z68 hgj
              have g4 := z39 hnj
              rw [Diners.row] at g3
              have hnjj : ¬ ((j : Int) < 0) := by omega
              have c1 := z811 n 0 ((k.dishes.length : Int) - 1)
              rw [z31 hgj, z31 hnj, rowOk, hq] at hRj
              cases q3 : withinB n 0 ((k.dishes.length : Int) - 1)
              · rw [q3] at hRj c1
                rw [Bool.false_and, Bool.false_and, Bool.false_and] at hRj
                rw [hRj]
                repeat (first | refine nx ?_ | (refine z10 fun K hK => ?_; simp (maxSteps := 4000000) only [go_sem]; refine hK _ ?_; clear hK K))
                refine z17 (by kernel_rfl) (by kernel_rfl) fun K hK => ?_
                simp (maxSteps := 4000000) only [go_sem, g1, g2, g3, g4, hni, hnjj, w]
                refine ⟨_, .fn (hf := c1) (hd := rfl) (hr := .inl rfl), ?_⟩
                simp (maxSteps := 4000000) only [go_sem]
                refine ⟨by kernel_rfl, hK _ ?_⟩
                clear hK K
                repeat (first | refine z12 rfl ?_ | refine z11 rfl ?_ | refine nx ?_ | (refine z10 fun K hK => ?_; simp (maxSteps := 4000000) only [go_sem]; refine hK _ ?_; clear hK K))
                simp (maxSteps := 4000000) only [go_sem]
              · rw [q3] at hRj c1
                rw [Bool.true_and] at hRj
                have hw3 := z44.1 q3
                obtain ⟨m, rfl⟩ : ∃ m : Nat, n = (m : Int) := ⟨n.toNat, by omega⟩
                have c2 := z1103 k hg m g.no (by omega)
                cases q4 : suitsB k (m : Int) g.no
                · rw [q4] at hRj c2
                  rw [Bool.false_and, Bool.false_and] at hRj
                  rw [hRj]
                  rw [Kitchen.cells] at c2
                  repeat (first | refine nx ?_ | (refine z10 fun K hK => ?_; simp (maxSteps := 4000000) only [go_sem]; refine hK _ ?_; clear hK K))
                  refine z17 (by kernel_rfl) (by kernel_rfl) fun K hK => ?_
                  simp (maxSteps := 4000000) only [go_sem, g1, g2, g3, g4, hni, hnjj, w]
                  refine ⟨_, .fn (hf := c1) (hd := rfl) (hr := .inl rfl), ?_⟩
                  simp (maxSteps := 4000000) only [go_sem, g1, g2, g3, g4, hni, hnjj]
                  refine ⟨_, .fn (hf := c2) (hd := rfl) (hr := .inl rfl), ?_⟩
                  simp (maxSteps := 4000000) only [go_sem]
                  refine ⟨by kernel_rfl, hK _ ?_⟩
                  clear hK K
                  repeat (first | refine z12 rfl ?_ | refine z11 rfl ?_ | refine nx ?_ | (refine z10 fun K hK => ?_; simp (maxSteps := 4000000) only [go_sem]; refine hK _ ?_; clear hK K))
                  simp (maxSteps := 4000000) only [go_sem]
                · rw [q4] at hRj c2
                  rw [Bool.true_and] at hRj
                  rw [Kitchen.cells] at c2
                  repeat (first | refine nx ?_ | (refine z10 fun K hK => ?_; simp (maxSteps := 4000000) only [go_sem]; refine hK _ ?_; clear hK K))
                  refine z17 (by kernel_rfl) (by kernel_rfl) fun K hK => ?_
                  simp (maxSteps := 4000000) only [go_sem, g1, g2, g3, g4, hni, hnjj, w]
                  refine ⟨_, .fn (hf := c1) (hd := rfl) (hr := .inl rfl), ?_⟩
                  simp (maxSteps := 4000000) only [go_sem, g1, g2, g3, g4, hni, hnjj]
                  refine ⟨_, .fn (hf := c2) (hd := rfl) (hr := .inl rfl), ?_⟩
                  simp (maxSteps := 4000000) only [go_sem]
                  refine ⟨by kernel_rfl, hK _ ?_⟩
                  clear hK K
                  repeat (first | refine z12 rfl ?_ | refine z11 rfl ?_ | refine nx ?_ | (refine z10 fun K hK => ?_; simp (maxSteps := 4000000) only [go_sem, hwj]; refine hK _ ?_; clear hK K))
                  refine ⟨rfl, j + 1, ?_, ⟨hltj, hRj⟩, by omega⟩
                  refine z13 [] ?_ ?_ rfl rfl <;> simp [lessT, lessM, lessB, AV.less]
            · have he : j = r.length := by (have : ¬ j < r.length := by simpa using hb); omega
              subst he
              rw [List.drop_length, hrl, List.drop_length, rowOk, Bool.true_and] at hRj
              repeat (first | refine nx ?_ | (refine z10 fun K hK => ?_; simp (maxSteps := 4000000) only [go_sem, hw]; refine hK _ ?_; clear hK K))
              refine ⟨rfl, i + 1, ?_, ⟨hlt, hRj⟩, by omega⟩
              refine z13 [] ?_ ?_ rfl rfl <;> simp [lessT, lessM, lessB, AV.less]
        · have hf : rowOk q r d = false := by
            cases hx : rowOk q r d with
            | false => rfl
            | true =>
              have := z86 hx
              rw [this] at q2
              simp at q2
          rw [hf, Bool.false_and] at hRi
          rw [hRi]
          repeat (first | refine nx ?_ | (refine z10 fun K hK => ?_; simp (maxSteps := 4000000) only [go_sem]; refine hK _ ?_; clear hK K))
          refine z17 (by kernel_rfl) (by kernel_rfl) fun K hK => ?_
          simp (maxSteps := 4000000) only [go_sem, g1, g2, hni, q2]
          refine ⟨by kernel_rfl, hK _ ?_⟩
          clear hK K
          repeat (first | refine z12 rfl ?_ | refine z11 rfl ?_ | refine nx ?_ | (refine z10 fun K hK => ?_; simp (maxSteps := 4000000) only [go_sem]; refine hK _ ?_; clear hK K))
          simp (maxSteps := 4000000) only [go_sem]
      · have he : i = M.length := by (have : ¬ i < M.length := by simpa using hb); omega
        subst he
        rw [List.drop_length, hl, List.drop_length, shapedB] at hRi
        rw [hRi]
        repeat (first | refine nx ?_ | (refine z10 fun K hK => ?_; simp (maxSteps := 4000000) only [go_sem]; refine hK _ ?_; clear hK K))
        simp (maxSteps := 4000000) only [go_sem]
  · have hf : R = false := by
      rw [hR]
      cases hx : shapedB q M k.days with
      | false => rfl
      | true =>
        have := z37 hx
        rw [this] at q1
        simp at q1
    rw [hf]
    refine z18 74 Try.call23 Try.func23 rfl (by decide) fun J => ?_
    simp (maxSteps := 4000000) only [go_sem, St.start, Try.ntmps23, Try.results23, Kitchen.cells]
    repeat (first | refine z12 rfl ?_ | refine z11 rfl ?_ | refine nx ?_ | (refine z10 fun K hK => ?_; simp (maxSteps := 4000000) only [go_sem, q1, z28]; refine hK _ ?_; clear hK K))
    simp (maxSteps := 4000000) only [go_sem]
end Go.Ab
namespace Go.Ab
open Go.RowKit Go.Proofs
set_option maxHeartbeats 8000000
set_option maxRecDepth 20000
attribute [local irreducible] WalkL Walk
def longB (r : List Int) : Bool := decide ((r.length : Int) > 20)
def farRows (M : List (List Int)) : Bool := M.any longB || decide ((M.length : Int) > 20)
theorem z1112 (M : List (List Int)) (hM : M.length < 2 ^ 30) : Fn Try.prog 12 [.sl (listRows M)] (.bool (farRows M)) := by
  unfold farRows
  obtain ⟨R, hR⟩ : ∃ R, R = (M.any longB || decide ((M.length : Int) > 20)) := ⟨_, rfl⟩
  rw [← hR]
  refine z18 19 Try.call12 Try.func12 rfl (by decide) fun J => ?_
  simp (maxSteps := 4000000) only [go_sem, St.start, Try.ntmps12, Try.results12]
  repeat (first | refine nx ?_ | (refine z10 fun K hK => ?_; simp (maxSteps := 4000000) only [go_sem]; refine hK _ ?_; clear hK K))
  refine z15 (fun (i : Nat) => [(3, .d (.i (i : Int)))]) (fun _ => []) (fun i => i ≤ M.length ∧ R = ((M.drop i).any longB || decide ((M.length : Int) > 20))) (fun i => M.length - i) 0 ?_ ⟨Nat.zero_le _, hR⟩ ?_
  · simp (maxSteps := 4000000) only [go_sem]
    refine z13 [] ?_ ?_ rfl rfl <;> simp [lessT, lessM, lessB, AV.less]
  · rintro i ⟨hi, z47⟩
    simp (maxSteps := 4000000) only [go_sem]
    repeat (first | refine nx ?_ | (refine z10 fun K hK => ?_; simp (maxSteps := 4000000) only [go_sem, z28]; refine hK _ ?_; clear hK K))
    refine z14 rfl (fun hb => ?_) (fun hb => ?_)
    · have hlt : i < M.length := by simpa using hb
      have hw : IntKind.i64.wrap ((i : Int) + 1) = ((i + 1 : Nat) : Int) := by rw [z16 (by omega)]; simp
      obtain ⟨r, hr⟩ : ∃ r, M[i]? = some r := ⟨_, List.getElem?_eq_getElem hlt⟩
      have g1 := z33 hr
      have hni : ¬ ((i : Int) < 0) := by omega
      rw [z31 hr, List.any_cons] at z47
      cases q : longB r
      · rw [q, Bool.false_or] at z47
        rw [longB] at q
        repeat (first | refine z12 rfl ?_ | refine z11 rfl ?_ | refine nx ?_ | (refine z10 fun K hK => ?_; simp (maxSteps := 4000000) only [go_sem, g1, hni, q, hw]; refine hK _ ?_; clear hK K))
        refine ⟨rfl, i + 1, ?_, ⟨hlt, z47⟩, by omega⟩
        refine z13 [] ?_ ?_ rfl rfl <;> simp [lessT, lessM, lessB, AV.less]
      · rw [q, Bool.true_or, Bool.true_or] at z47
        rw [longB] at q
        subst z47
        repeat (first | refine z12 rfl ?_ | refine z11 rfl ?_ | refine nx ?_ | (refine z10 fun K hK => ?_; simp (maxSteps := 4000000) only [go_sem, g1, hni, q]; refine hK _ ?_; clear hK K))
        simp (maxSteps := 4000000) only [go_sem]
    · have he : i = M.length := by (have : ¬ i < M.length := by simpa using hb); omega
      subst he
      rw [List.drop_length, List.any_nil, Bool.false_or] at z47
      subst z47
      repeat (first | refine nx ?_ | (refine z10 fun K hK => ?_; simp (maxSteps := 4000000) only [go_sem, z28]; refine hK _ ?_; clear hK K))
      simp (maxSteps := 4000000) only [go_sem]
def longD (d : List Diners) : Bool := decide ((d.length : Int) > 20)
def longN (d : Dish) : Bool := decide ((d.needs.length : Int) > 20)
def maxTo (l : List (List Diners)) : Nat → Int
  | 0 => 0
  | i + 1 => max (maxTo l i) ((l.getD i []).length : Int)
def farK1 (k : Kitchen) : Bool := decide ((k.allerg.length : Int) > 20) || (decide ((k.batches.length : Int) > 20) || (decide ((k.dishes.length : Int) > 20) || decide ((k.days.length : Int) > 20)))
def farK2 (k : Kitchen) : Bool := (kitE k == 0) && (decide ((k.dishes.length : Int) > 3) || (decide ((k.days.length : Int) > 3) || decide (maxTo k.days k.days.length > 2)))
def far7 (k : Kitchen) : Bool := farK1 k || (k.days.any longD || (k.dishes.any longN || farK2 k))
theorem z1113 (k : Kitchen) (hs : KitSmall k) : Fn Try.prog 11 [.agg k.cells] (.bool (far7 k)) := by
  have h44 := z1059 k hs
  have a1 := hs.allerg
  have a2 := hs.batches
  have a3 := hs.dishes
  have a5 := hs.days
  obtain ⟨R, hR⟩ : ∃ R, R = far7 k := ⟨_, rfl⟩
  rw [← hR]
  rw [far7] at hR
  rw [Kitchen.cells] at h44
  refine z18 84 Try.call11 Try.func11 rfl (by decide) fun J => ?_
  simp (maxSteps := 4000000) only [go_sem, St.start, Try.ntmps11, Try.results11, Kitchen.cells]
  repeat (first | refine nx ?_ | (refine z10 fun K hK => ?_; simp (maxSteps := 4000000) only [go_sem]; refine hK _ ?_; clear hK K))
  refine z130 [(27, .d (.bool (farK1 k)))] [] ?_ ?_
  · refine z10 fun K hK => ?_
    simp (maxSteps := 4000000) only [go_sem]
    by_cases ho0 : (decide ((k.allerg.length : Int) > 20)) = true
    · simp (maxSteps := 4000000) only [go_sem, ho0]
      refine hK _ ?_
      clear hK K
      refine z34 ?_
      refine z25 ?_
      refine ⟨rfl, ?_⟩
      rw [show (farK1 k) = (true) from by simp [farK1, ho0]]
      simp (maxSteps := 4000000) only [go_sem]
      refine z13 [] ?_ ?_ rfl rfl <;> simp [lessT, lessM, lessB, AV.less]
    · simp (maxSteps := 4000000) only [go_sem, ho0]
      by_cases ho1 : (decide ((k.batches.length : Int) > 20)) = true
      · simp (maxSteps := 4000000) only [go_sem, ho0, ho1]
        refine hK _ ?_
        clear hK K
        refine z34 ?_
        refine z25 ?_
        refine ⟨rfl, ?_⟩
        rw [show (farK1 k) = (true) from by simp [farK1, ho0, ho1]]
        simp (maxSteps := 4000000) only [go_sem]
        refine z13 [] ?_ ?_ rfl rfl <;> simp [lessT, lessM, lessB, AV.less]
      · simp (maxSteps := 4000000) only [go_sem, ho0, ho1]
        by_cases ho2 : (decide ((k.dishes.length : Int) > 20)) = true
        · simp (maxSteps := 4000000) only [go_sem, ho0, ho1, ho2]
          refine hK _ ?_
          clear hK K
          refine z34 ?_
          refine z25 ?_
          refine ⟨rfl, ?_⟩
          rw [show (farK1 k) = (true) from by simp [farK1, ho0, ho1, ho2]]
          simp (maxSteps := 4000000) only [go_sem]
          refine z13 [] ?_ ?_ rfl rfl <;> simp [lessT, lessM, lessB, AV.less]
        · simp (maxSteps := 4000000) only [go_sem, ho0, ho1, ho2]
          refine hK _ ?_
          clear hK K
          refine z34 ?_
          refine z25 ?_
          refine ⟨rfl, ?_⟩
          rw [show (farK1 k) = (decide ((k.days.length : Int) > 20)) from by simp [farK1, ho0, ho1, ho2]]
          simp (maxSteps := 4000000) only [go_sem]
          refine z13 [] ?_ ?_ rfl rfl <;> simp [lessT, lessM, lessB, AV.less]
  simp (maxSteps := 4000000) only [go_sem]
  repeat (first | refine nx ?_ | (refine z10 fun K hK => ?_; simp (maxSteps := 4000000) only [go_sem]; refine hK _ ?_; clear hK K))
  refine z14 rfl (fun hc => ?_) (fun hc => ?_)
  · rw [hc, Bool.true_or] at hR
    subst hR
    rw [hc]
    repeat (first | refine nx ?_ | (refine z10 fun K hK => ?_; simp (maxSteps := 4000000) only [go_sem]; refine hK _ ?_; clear hK K))
    simp (maxSteps := 4000000) only [go_sem, if_true]
  · rw [hc, Bool.false_or] at hR
    rw [hc]
    repeat (first | refine nx ?_ | (refine z10 fun K hK => ?_; simp (maxSteps := 4000000) only [go_sem]; refine hK _ ?_; clear hK K))
    refine z15 (fun (i : Nat) => [(4, .d (.i (i : Int))), (3, .d (.i (maxTo k.days i)))]) (fun _ => []) (fun i => i ≤ k.days.length ∧ R = ((k.days.drop i).any longD || (k.dishes.any longN || farK2 k))) (fun i => k.days.length - i) 0 ?_ ⟨Nat.zero_le _, hR⟩ ?_
    · simp (maxSteps := 4000000) only [go_sem, maxTo]
      refine z13 [] ?_ ?_ rfl rfl <;> simp [lessT, lessM, lessB, AV.less]
    · rintro i ⟨hi, z47⟩
      have hmx : max (maxTo k.days i) ((k.days.getD i []).length : Int) = maxTo k.days (i + 1) := rfl
      obtain ⟨mi, hmi⟩ : ∃ m, m = maxTo k.days i := ⟨_, rfl⟩
      rw [← hmi] at hmx
      simp (maxSteps := 4000000) only [go_sem, ← hmi]
      repeat (first | refine nx ?_ | (refine z10 fun K hK => ?_; simp (maxSteps := 4000000) only [go_sem]; refine hK _ ?_; clear hK K))
      refine z14 rfl (fun hb => ?_) (fun hb => ?_)
      · have hlt : i < k.days.length := by simpa using hb
        have hw : IntKind.i64.wrap ((i : Int) + 1) = ((i + 1 : Nat) : Int) := by rw [z16 (by omega)]; simp
        obtain ⟨r, hr⟩ : ∃ r, k.days[i]? = some r := ⟨_, List.getElem?_eq_getElem hlt⟩
        have g1 := z69 hr
        have hni : ¬ ((i : Int) < 0) := by omega
        rw [List.getD, hr, Option.getD_some] at hmx
        rw [z31 hr, List.any_cons] at z47
        cases q : longD r
        · rw [q, Bool.false_or] at z47
          rw [longD] at q
          repeat (first | refine z12 rfl ?_ | refine z11 rfl ?_ | refine nx ?_ | (refine z10 fun K hK => ?_; simp (maxSteps := 4000000) only [go_sem, g1, hni, q, hw, hmx]; refine hK _ ?_; clear hK K))
          refine ⟨rfl, i + 1, ?_, ⟨hlt, z47⟩, by omega⟩
          refine z13 [] ?_ ?_ rfl rfl <;> simp [lessT, lessM, lessB, AV.less]
          all_goals first | done | rfl | trace_state
        · rw [q, Bool.true_or] at z47
          rw [longD] at q
          subst z47
          repeat (first | refine z12 rfl ?_ | refine z11 rfl ?_ | refine nx ?_ | (refine z10 fun K hK => ?_; simp (maxSteps := 4000000) only [go_sem, g1, hni, q]; refine hK _ ?_; clear hK K))
          simp (maxSteps := 4000000) only [go_sem]
      · have he : i = k.days.length := by (have : ¬ i < k.days.length := by simpa using hb); omega
        subst he
        rw [List.drop_length, List.any_nil, Bool.false_or] at z47
        repeat (first | refine nx ?_ | (refine z10 fun K hK => ?_; simp (maxSteps := 4000000) only [go_sem]; refine hK _ ?_; clear hK K))
        refine z15 (fun (j : Nat) => [(5, .d (.i (j : Int)))]) (fun _ => []) (fun j => j ≤ k.dishes.length ∧ R = ((k.dishes.drop j).any longN || farK2 k)) (fun j => k.dishes.length - j) 0 ?_ ⟨Nat.zero_le _, z47⟩ ?_
        · simp (maxSteps := 4000000) only [go_sem]
          refine z13 [] ?_ ?_ rfl rfl <;> simp [lessT, lessM, lessB, AV.less]
        · rintro j ⟨hj, hallj⟩
          simp (maxSteps := 4000000) only [go_sem]
          repeat (first | refine nx ?_ | (refine z10 fun K hK => ?_; simp (maxSteps := 4000000) only [go_sem]; refine hK _ ?_; clear hK K))
          refine z14 rfl (fun hb => ?_) (fun hb => ?_)
          · have hlt : j < k.dishes.length := by simpa using hb
            have hw : IntKind.i64.wrap ((j : Int) + 1) = ((j + 1 : Nat) : Int) := by rw [z16 (by omega)]; simp
            obtain ⟨r, hr⟩ : ∃ r, k.dishes[j]? = some r := ⟨_, List.getElem?_eq_getElem hlt⟩
            have g1 := z108 hr
            rw [Dish.row] at g1
            have hni : ¬ ((j : Int) < 0) := by omega
            rw [z31 hr, List.any_cons] at hallj
            cases q : longN r
            · rw [q, Bool.false_or] at hallj
              rw [longN] at q
              repeat (first | refine z12 rfl ?_ | refine z11 rfl ?_ | refine nx ?_ | (refine z10 fun K hK => ?_; simp (maxSteps := 4000000) only [go_sem, g1, hni, q, hw]; refine hK _ ?_; clear hK K))
              refine ⟨rfl, j + 1, ?_, ⟨hlt, hallj⟩, by omega⟩
              refine z13 [] ?_ ?_ rfl rfl <;> simp [lessT, lessM, lessB, AV.less]
            · rw [q, Bool.true_or] at hallj
              rw [longN] at q
              subst hallj
              repeat (first | refine z12 rfl ?_ | refine z11 rfl ?_ | refine nx ?_ | (refine z10 fun K hK => ?_; simp (maxSteps := 4000000) only [go_sem, g1, hni, q]; refine hK _ ?_; clear hK K))
              simp (maxSteps := 4000000) only [go_sem]
          · have he : j = k.dishes.length := by (have : ¬ j < k.dishes.length := by simpa using hb); omega
            subst he
            rw [List.drop_length, List.any_nil, Bool.false_or, farK2, ← hmi] at hallj
            obtain ⟨e, he⟩ : ∃ e, e = kitE k := ⟨_, rfl⟩
            rw [← he] at h44 hallj
            cases q0 : (e == 0)
            · rw [q0, Bool.false_and] at hallj
              subst hallj
              repeat (first | refine z12 rfl ?_ | refine z11 rfl ?_ | refine nx ?_ | (refine z10 fun K hK => ?_; simp (maxSteps := 4000000) only [go_sem, q0]; (repeat (first | (refine ⟨_, .lent (hf := h44) (hd := rfl) (hr := rfl), ?_⟩; simp (maxSteps := 4000000) only [go_sem, q0]) | (refine ⟨_, .given (hf := h44) (hd := rfl) (ha := rfl), ?_⟩; simp (maxSteps := 4000000) only [go_sem, q0]))); refine hK _ ?_; clear hK K))
              simp (maxSteps := 4000000) only [go_sem]
            · rw [q0, Bool.true_and] at hallj
              cases q1 : decide ((k.dishes.length : Int) > 3)
              · rw [q1, Bool.false_or] at hallj
                cases q2 : decide ((k.days.length : Int) > 3)
                · rw [q2, Bool.false_or] at hallj
                  subst hallj
                  repeat (first | refine z12 rfl ?_ | refine z11 rfl ?_ | refine nx ?_ | (refine z10 fun K hK => ?_; simp (maxSteps := 4000000) only [go_sem, q0, q1, q2]; (repeat (first | (refine ⟨_, .lent (hf := h44) (hd := rfl) (hr := rfl), ?_⟩; simp (maxSteps := 4000000) only [go_sem, q0, q1, q2]) | (refine ⟨_, .given (hf := h44) (hd := rfl) (ha := rfl), ?_⟩; simp (maxSteps := 4000000) only [go_sem, q0, q1, q2]))); refine hK _ ?_; clear hK K))
                  simp (maxSteps := 4000000) only [go_sem]
                · rw [q2, Bool.true_or] at hallj
                  subst hallj
                  repeat (first | refine z12 rfl ?_ | refine z11 rfl ?_ | refine nx ?_ | (refine z10 fun K hK => ?_; simp (maxSteps := 4000000) only [go_sem, q0, q1, q2]; (repeat (first | (refine ⟨_, .lent (hf := h44) (hd := rfl) (hr := rfl), ?_⟩; simp (maxSteps := 4000000) only [go_sem, q0, q1, q2]) | (refine ⟨_, .given (hf := h44) (hd := rfl) (ha := rfl), ?_⟩; simp (maxSteps := 4000000) only [go_sem, q0, q1, q2]))); refine hK _ ?_; clear hK K))
                  simp (maxSteps := 4000000) only [go_sem]
              · rw [q1, Bool.true_or] at hallj
                subst hallj
                repeat (first | refine z12 rfl ?_ | refine z11 rfl ?_ | refine nx ?_ | (refine z10 fun K hK => ?_; simp (maxSteps := 4000000) only [go_sem, q0, q1]; (repeat (first | (refine ⟨_, .lent (hf := h44) (hd := rfl) (hr := rfl), ?_⟩; simp (maxSteps := 4000000) only [go_sem, q0, q1]) | (refine ⟨_, .given (hf := h44) (hd := rfl) (ha := rfl), ?_⟩; simp (maxSteps := 4000000) only [go_sem, q0, q1]))); refine hK _ ?_; clear hK K))
                simp (maxSteps := 4000000) only [go_sem]
end Go.Ab
namespace Go.Ab
open Go.RowKit Go.Proofs
set_option maxHeartbeats 16000000
set_option maxRecDepth 20000
attribute [local irreducible] WalkL Walk
theorem z705 {q : Int → Diners → Bool} : ∀ {r : List Int} {x : List Diners}, r.length = x.length → (∀ (g : Nat) n y, r[g]? = some n → x[g]? = some y → q n y = true) → rowOk q r x = true
  | [], [], _, _ => rfl
  | n :: r, y :: x, hl, h => by
    rw [rowOk, h 0 n y rfl rfl, Bool.true_and]
    exact z705 (by simpa using hl) fun g a b h1 h2 => h (g + 1) a b (by simpa using h1) (by simpa using h2)
  | [], _ :: _, h, _ => by simp at h
  | _ :: _, [], h, _ => by simp at h
theorem z506 {q : Int → Diners → Bool} : ∀ {M : List (List Int)} {D : List (List Diners)}, M.length = D.length → (∀ (i : Nat) r x, M[i]? = some r → D[i]? = some x → rowOk q r x = true) → shapedB q M D = true
  | [], [], _, _ => rfl
  | n :: r, y :: x, hl, h => by
    rw [shapedB, h 0 n y rfl rfl, Bool.true_and]
    exact z506 (by simpa using hl) fun g a b h1 h2 => h (g + 1) a b (by simpa using h1) (by simpa using h2)
  | [], _ :: _, h, _ => by simp at h
  | _ :: _, [], h, _ => by simp at h
def suitsP (k : Kitchen) (no : Int) : List Int × Int := if kitE k = 0 then (if setB no = true then (suitL k no, 0) else ([], 1)) else ([], kitE k)
def readyB (k : Kitchen) : Bool := !far7 k && (kitE k == 0)
theorem z1108 (k : Kitchen) (hs : KitSmall k) : Fn Try.prog 22 [.agg k.cells] (.bool (readyB k)) := by
  have h11 := z1113 k hs
  have h32 := z1059 k hs
  rw [Kitchen.cells] at h11 h32 ⊢
  unfold readyB
  cases q1 : far7 k
  · rw [q1] at h11
    cases q2 : (kitE k == 0)
    · refine z18 11 Try.call22 Try.func22 rfl (by decide) fun J => ?_
      simp (maxSteps := 4000000) only [go_sem, St.start, Try.ntmps22, Try.results22]
      repeat (first | refine z12 rfl ?_ | refine z11 rfl ?_ | refine nx ?_ | (refine z10 fun K hK => ?_; simp (maxSteps := 4000000) only [go_sem, q2]; (repeat (first | (refine ⟨_, .lent (hf := h11) (hd := rfl) (hr := rfl), ?_⟩; simp (maxSteps := 4000000) only [go_sem, q2]) | (refine ⟨_, .lent (hf := h32) (hd := rfl) (hr := rfl), ?_⟩; simp (maxSteps := 4000000) only [go_sem, q2]) | (refine ⟨_, .given (hf := h11) (hd := rfl) (ha := rfl), ?_⟩; simp (maxSteps := 4000000) only [go_sem, q2]) | (refine ⟨_, .given (hf := h32) (hd := rfl) (ha := rfl), ?_⟩; simp (maxSteps := 4000000) only [go_sem, q2]))); refine hK _ ?_; clear hK K))
      simp (maxSteps := 4000000) only [go_sem, q2]
    · refine z18 11 Try.call22 Try.func22 rfl (by decide) fun J => ?_
      simp (maxSteps := 4000000) only [go_sem, St.start, Try.ntmps22, Try.results22]
      repeat (first | refine z12 rfl ?_ | refine z11 rfl ?_ | refine nx ?_ | (refine z10 fun K hK => ?_; simp (maxSteps := 4000000) only [go_sem, q2]; (repeat (first | (refine ⟨_, .lent (hf := h11) (hd := rfl) (hr := rfl), ?_⟩; simp (maxSteps := 4000000) only [go_sem, q2]) | (refine ⟨_, .lent (hf := h32) (hd := rfl) (hr := rfl), ?_⟩; simp (maxSteps := 4000000) only [go_sem, q2]) | (refine ⟨_, .given (hf := h11) (hd := rfl) (ha := rfl), ?_⟩; simp (maxSteps := 4000000) only [go_sem, q2]) | (refine ⟨_, .given (hf := h32) (hd := rfl) (ha := rfl), ?_⟩; simp (maxSteps := 4000000) only [go_sem, q2]))); refine hK _ ?_; clear hK K))
      simp (maxSteps := 4000000) only [go_sem, q2]
  · rw [q1] at h11
    refine z18 11 Try.call22 Try.func22 rfl (by decide) fun J => ?_
    simp (maxSteps := 4000000) only [go_sem, St.start, Try.ntmps22, Try.results22]
    repeat (first | refine z12 rfl ?_ | refine z11 rfl ?_ | refine nx ?_ | (refine z10 fun K hK => ?_; simp (maxSteps := 4000000) only [go_sem]; (repeat (first | (refine ⟨_, .lent (hf := h11) (hd := rfl) (hr := rfl), ?_⟩; simp (maxSteps := 4000000) only [go_sem]) | (refine ⟨_, .given (hf := h11) (hd := rfl) (ha := rfl), ?_⟩; simp (maxSteps := 4000000) only [go_sem]))); refine hK _ ?_; clear hK K))
    simp (maxSteps := 4000000) only [go_sem]
end Go.Ab
namespace Go.Ab
open Go.RowKit Go.Proofs
set_option maxHeartbeats 16000000
set_option maxRecDepth 20000
attribute [local irreducible] WalkL Walk
theorem z1061 (k : Kitchen) (hg : KitWide k) (ds cs : List Int) (good : Nat) (hgd : good < k.allerg.length) (hd : DayOk k ds fun g => getI cs (g : Int)) (hl : cs.length = ds.length) :
    Fn Try.prog 26 [.agg k.cells, .sl (intRows ds), .sl (intRows cs), .i (good : Int)] (.i (needG k ds (fun g => getI cs (g : Int)) good ds.length)) := by
  have hdl := hd.len
  obtain ⟨f, hf⟩ : ∃ f : Nat → Int, f = needG k ds (fun g => getI cs (g : Int)) good := ⟨_, rfl⟩
  have hf0 : f 0 = 0 := by rw [hf]; rfl
  have hfs : ∀ i, f (i + 1) = f i + getI (dishAt k (getI ds (i : Int))).needs (good : Int) * getI cs (i : Int) := fun i => by rw [hf]; rfl
  have hfr : ∀ i, i ≤ ds.length → 0 ≤ f i ∧ f i ≤ 500000 * i := fun i hi => by rw [hf]; exact z123 hg hd good i hi
  rw [← hf]
  have hng : ¬ ((good : Int) < 0) := by omega
  refine z18 37 Try.call26 Try.func26 rfl (by decide) fun J => ?_
  simp (maxSteps := 4000000) only [go_sem, St.start, Try.ntmps26, Try.results26, Kitchen.cells]
  repeat (first | refine nx ?_ | (refine z10 fun K hK => ?_; simp (maxSteps := 4000000) only [go_sem]; refine hK _ ?_; clear hK K))
  refine z15 (fun (i : Nat) => [(10, .d (.i (i : Int))), (9, .d (.i (f i)))]) (fun _ => []) (fun i => i ≤ ds.length) (fun i => ds.length - i) 0 ?_ (Nat.zero_le _) ?_
  · rw [hf0]
    simp (maxSteps := 4000000) only [go_sem]
    refine z13 [] ?_ ?_ rfl rfl <;> simp [lessT, lessM, lessB, AV.less]
    all_goals first | done | rfl | trace_state
  · intro i hi
    simp (maxSteps := 4000000) only [go_sem]
    repeat (first | refine nx ?_ | (refine z10 fun K hK => ?_; simp (maxSteps := 4000000) only [go_sem, z19]; refine hK _ ?_; clear hK K))
    refine z14 rfl (fun hb => ?_) (fun hb => ?_)
    · have hlt : i < ds.length := by simpa using hb
      have hw : IntKind.i64.wrap ((i : Int) + 1) = ((i + 1 : Nat) : Int) := by rw [z16 (by omega)]; simp
      obtain ⟨n, hn, hnl⟩ := hd.dish i hlt
      have g1 := z39 hn
      have gd := z460 hnl
      have hnl2 := z281 hg hnl
      have e : getI ds (i : Int) = n := by rw [getI, Int.toNat_natCast, List.getD, hn]; rfl
      have hq := z325 hg hnl (good : Int)
      have hfi := hfs i
      rw [e] at hfi
      have gc := z21 (l := cs) (i := i) (by omega)
      obtain ⟨N, hN⟩ : ∃ N, N = (dishAt k (n : Int)).needs := ⟨_, rfl⟩
      rw [← hN] at hnl2 gd hq hfi
      have gN := z21 (l := N) (i := good) (by omega)
      have hcr := hd.cnt i hlt
      have r1 := hfr i hi
      have m1 : 0 ≤ getI N (good : Int) * getI cs (i : Int) := Int.mul_nonneg hq.1 hcr.1
      have m2 : getI N (good : Int) * getI cs (i : Int) ≤ 5000 * 100 := Int.mul_le_mul hq.2 hcr.2 hcr.1 (by decide)
      have e1 : IntKind.i64.wrap (getI N (good : Int) * getI cs (i : Int)) = getI N (good : Int) * getI cs (i : Int) := z16 (by omega)
      have e2 : IntKind.i64.wrap (f i + getI N (good : Int) * getI cs (i : Int)) = f (i + 1) := by rw [hfi]; exact z16 (by omega)
      have hni : ¬ ((i : Int) < 0) := by omega
      have hnn : ¬ ((n : Int) < 0) := by omega
      repeat (first | refine nx ?_ | (refine z10 fun K hK => ?_; simp (maxSteps := 4000000) only [go_sem]; refine hK _ ?_; clear hK K))
      refine z17 (by kernel_rfl) (by kernel_rfl) fun K hK => ?_
      simp (maxSteps := 4000000) only [go_sem, g1, gd, gN, gc, hni, hnn, hng, e1, e2]
      refine ⟨by kernel_rfl, hK _ ?_⟩
      clear hK K
      repeat (first | refine nx ?_ | (refine z10 fun K hK => ?_; simp (maxSteps := 4000000) only [go_sem, hw]; refine hK _ ?_; clear hK K))
      refine ⟨rfl, i + 1, ?_, hlt, by omega⟩
      refine z13 [] ?_ ?_ rfl rfl <;> simp [lessT, lessM, lessB, AV.less]
      all_goals first | done | rfl | trace_state
    · have he : i = ds.length := by (have : ¬ i < ds.length := by simpa using hb); omega
      subst he
      repeat (first | refine nx ?_ | (refine z10 fun K hK => ?_; simp (maxSteps := 4000000) only [go_sem]; refine hK _ ?_; clear hK K))
      simp (maxSteps := 4000000) only [go_sem]
end Go.Ab
namespace Go.Ab
open Go.RowKit Go.Proofs
def sumN (f : Nat → Int) : Nat → Int
  | 0 => 0
  | n + 1 => sumN f n + f n
theorem z225 {f g : Nat → Int} : ∀ n, (∀ i, i < n → f i = g i) → sumN f n = sumN g n
  | 0, _ => rfl
  | n + 1, h => by rw [sumN, sumN, z225 n fun i hi => h i (by omega), h n (by omega)]
theorem z132 {f : Nat → Int} : ∀ n, (∀ i, i < n → 0 ≤ f i) → 0 ≤ sumN f n
  | 0, _ => Int.le_refl _
  | n + 1, h => by
    have h1 := z132 n fun i hi => h i (by omega)
    have h2 := h n (by omega)
    rw [sumN]
    omega
theorem z831 {f : Nat → Int} {b : Int} : ∀ n : Nat, (∀ i, i < n → f i ≤ b) → sumN f n ≤ b * n
  | 0, _ => by simp [sumN]
  | n + 1, h => by
    have h1 := z831 n fun i hi => h i (by omega)
    have h2 := h n (by omega)
    rw [sumN, Int.natCast_add, Int.mul_add]
    simp
    omega
theorem z139 (l : List Int) (i : Nat) : getI l (i : Int) = l.getD i 0 := by rw [getI, Int.toNat_natCast]
theorem z83 {l : List Int} {i : Nat} (hi : i < l.length) (x : Int) (j : Nat) : getI (l.set i x) (j : Int) = if j = i then x else getI l (j : Int) := by
  rw [z139, z139, List.getD_eq_getElem?_getD, List.getD_eq_getElem?_getD, List.getElem?_set]
  by_cases h : i = j
  · subst h; rw [if_pos rfl, if_pos hi, if_pos rfl]; rfl
  · rw [if_neg h, if_neg (fun e => h e.symm)]
def wOf (k : Kitchen) (q : Int → Bool) (l : List Int) : Int := sumN (fun i => if q (batAt k i).good then getI l (i : Int) else 0) k.batches.length
theorem z600 {k : Kitchen} {q : Int → Bool} {l : List Int} {i : Nat} (hi : i < k.batches.length) (hl : l.length = k.batches.length) (x : Int) : wOf k q (l.set i x) = wOf k q l + if q (batAt k i).good then x - getI l (i : Int) else 0 := by
  have key : ∀ n, sumN (fun j => if q (batAt k j).good then getI (l.set i x) (j : Int) else 0) n = sumN (fun j => if q (batAt k j).good then getI l (j : Int) else 0) n + if i < n then (if q (batAt k i).good then x - getI l (i : Int) else 0) else 0 := by
    intro n
    induction n with
    | zero => simp [sumN]
    | succ n ih =>
      rw [sumN, sumN, ih, z83 (by omega)]
      by_cases h : n = i
      · subst h
        rw [if_neg (Nat.lt_irrefl _), if_pos (Nat.lt_succ_self _), if_pos rfl]
        split <;> omega
      · rw [if_neg h]
        by_cases h2 : i < n
        · simp only [if_pos h2, if_pos (show i < n + 1 by omega)]
          rw [Int.add_right_comm]
        · simp only [if_neg h2, if_neg (show ¬ i < n + 1 by omega), Int.add_zero]
  rw [wOf, key, if_pos hi]
  rfl
theorem z738 {k : Kitchen} {good : Nat} {q : Int → Bool} {a : List Int × Int} {i : Nat} (hi : i < k.batches.length) (hl : a.1.length = k.batches.length) :
    wOf k q (takeStep k good a i).1 = wOf k q a.1 - if q good then a.2 - (takeStep k good a i).2 else 0 := by
  unfold takeStep
  split
  · rename_i hg
    dsimp only
    rw [z600 hi hl, hg]
    split <;> omega
  · split <;> omega
theorem z822 {k : Kitchen} {good : Nat} {q : Int → Bool} : ∀ (o : List Nat) {a : List Int × Int}, (∀ x ∈ o, x < k.batches.length) → a.1.length = k.batches.length →
    wOf k q (o.foldl (takeStep k good) a).1 = wOf k q a.1 - if q good then a.2 - (o.foldl (takeStep k good) a).2 else 0
  | [], a, _, _ => by simp
  | i :: o, a, ho, hl => by
    have hlen : (takeStep k good a i).1.length = k.batches.length := by
      unfold takeStep
      split
      · simpa using hl
      · exact hl
    rw [List.foldl_cons, z822 o (fun x hx => ho x (by simp [hx])) hlen, z738 (ho i (by simp)) hl]
    split <;> omega
theorem z536 {needs : List Int} (hn : ∀ x ∈ needs, 0 ≤ x) (g : Nat) : 0 ≤ getI needs (g : Int) := by
  unfold getI List.getD
  cases hy : needs[((g : Int)).toNat]? with
  | none => simp
  | some y => exact hn y (List.mem_of_getElem? hy)
theorem z724 {k : Kitchen} {day : Int} {l : List Int} {w : Int} (hl : l.length = k.batches.length) (ha : AmtOk l) : ∀ j, j ≤ k.batches.length →
    (wOf k (fun _ => true) (clrTo k day l w j).1 + (clrTo k day l w j).2 = wOf k (fun _ => true) l + w) ∧ (∀ q, wOf k q (clrTo k day l w j).1 ≤ wOf k q l) ∧ (∀ i : Nat, getI (clrTo k day l w j).1 (i : Int) ≤ getI l (i : Int)) ∧
      (∀ i : Nat, i < j → (batAt k i).last < day → getI (clrTo k day l w j).1 (i : Int) = 0) ∧ (∀ i : Nat, i < k.batches.length → ¬ (batAt k i).last < day → getI (clrTo k day l w j).1 (i : Int) = getI l (i : Int))
  | 0, _ => ⟨rfl, fun q => Int.le_refl _, fun i => Int.le_refl _, fun i h => by omega, fun _ _ _ => rfl⟩
  | j + 1, hj => by
    obtain ⟨h1, h2, h3, h4, h5⟩ := z724 (day := day) (w := w) hl ha j (by omega)
    have hlj := z32 k day l w j
    obtain ⟨k1, k2, k3⟩ := z42 (k := k) (day := day) (w := w) ha j
    rw [clrTo]
    split
    · rename_i hlast
      have hg := k1.get (j : Int)
      dsimp only
      refine ⟨?_, fun q => ?_, fun i => ?_, fun i hi hlt => ?_, fun i hi hnl => ?_⟩
      · rw [z600 (by omega) (by omega), if_pos rfl]
        omega
      · rw [z600 (by omega) (by omega)]
        have := h2 q
        split <;> omega
      · rw [z83 (by omega)]
        split
        · rename_i e
          subst e
          exact (ha.get _).1
        · exact h3 i
      · rw [z83 (by omega)]
        split
        · rfl
        · exact h4 i (by omega) hlt
      · rw [z83 (by omega)]
        split
        · rename_i e
          subst e
          exact absurd hlast hnl
        · exact h5 i hi hnl
    · rename_i hlast
      refine ⟨h1, h2, h3, fun i hi hlt => ?_, h5⟩
      by_cases e : i = j
      · subst e; exact absurd hlt hlast
      · exact h4 i (by omega) hlt
theorem z277 (k : Kitchen) (M : List (List Int)) (cnt : Nat → Nat → Int) : ∀ n, lastD k M cnt n ≤ n
  | 0 => Nat.le_refl _
  | n + 1 => by
    rw [lastD]
    split
    · exact Nat.le_refl _
    · exact Nat.le_succ_of_le (z277 k M cnt n)
theorem z241 (k : Kitchen) (M : List (List Int)) (cnt : Nat → Nat → Int) : ∀ n, (runSt k M cnt (lastD k M cnt n)).isSome = true
  | 0 => rfl
  | n + 1 => by
    rw [lastD]
    split
    · assumption
    · exact z241 k M cnt n
structure Kept (k : Kitchen) (M : List (List Int)) (cnt : Nat → Nat → Int) (d : Nat) (a : List Int × Int) : Prop where
  total : wOf k (fun _ => true) (amtK k) = wOf k (fun _ => true) a.1 + a.2 + sumN (fun e => sumN (fun g => getI (needD k M cnt e) (g : Int)) k.allerg.length) d
  good : ∀ g : Nat, g < k.allerg.length → wOf k (fun x => decide (x = (g : Int))) a.1 + sumN (fun e => getI (needD k M cnt e) (g : Int)) d ≤ wOf k (fun x => decide (x = (g : Int))) (amtK k)
  le : ∀ i : Nat, getI a.1 (i : Int) ≤ getI (amtK k) (i : Int)
  dead : ∀ i : Nat, i < k.batches.length → (batAt k i).last < (d : Int) - 1 → getI a.1 (i : Int) ≤ 0
end Go.Ab
namespace Go.Ab
open Go.RowKit Go.Proofs
set_option maxHeartbeats 16000000
set_option maxRecDepth 20000
attribute [local irreducible] WalkL Walk
theorem z1027 {k : Kitchen} {i : Nat} (h : i < k.batches.length) : getI (amtK k) (i : Int) = (batAt k i).amount := by
  rw [z139, amtK, List.getD_eq_getElem?_getD, List.getElem?_map, batAt, List.getD_eq_getElem?_getD, List.getElem?_eq_getElem h]
  rfl
theorem z964 {k : Kitchen} (hg : KitWide k) {i : Nat} (h : i < k.batches.length) : (0 ≤ (batAt k i).good ∧ (batAt k i).good < k.allerg.length) ∧ (0 ≤ (batAt k i).amount ∧ (batAt k i).amount ≤ 9000000) ∧ (0 ≤ (batAt k i).last ∧ (batAt k i).last ≤ 30) := by
  have : batAt k i ∈ k.batches := by rw [batAt, List.getD_eq_getElem?_getD, List.getElem?_eq_getElem h]; exact List.getElem_mem h
  exact hg.batch _ this
theorem z513 {M : List (List Int)} {j : Nat} (h : j < M.length) : (listRows M)[j]? = some [.sl (intRows (M.getD j []))] := by
  have e : M.getD j [] = M[j] := by rw [List.getD_eq_getElem?_getD, List.getElem?_eq_getElem h]; rfl
  rw [e]
  exact z33 (List.getElem?_eq_getElem h)
structure KeptN (k : Kitchen) (G n D : Nat) (A L : Nat → Int) (W : Int) (nd : Nat → Nat → Int) : Prop where
  amt : ∀ i, i < n → 0 ≤ A i ∧ A i ≤ 9000000
  left : ∀ i, i < n → 0 ≤ L i ∧ L i ≤ A i
  waste : 0 ≤ W ∧ W ≤ 1000000000
  need : ∀ d g, d < D → g < G → 0 ≤ nd d g ∧ nd d g ≤ 1500000
  total : sumN A n = sumN L n + W + sumN (fun g => sumN (fun d => nd d g) D) G
  good : ∀ g, g < G → sumN (fun d => nd d g) D ≤ sumN (fun i => if (batAt k i).good = (g : Int) then A i - L i else 0) n
  dead : ∀ i, i < n → D = k.days.length → (batAt k i).last < (D : Int) - 1 → L i ≤ 0
end Go.Ab
namespace Go.Ab
open Go.RowKit Go.Proofs
theorem z375 (f : Nat → Int) : ∀ (j : Nat) (P : List Nat) (x : Nat) (T : List Nat), P.length = j →
    ∃ P1 P2, P = P1 ++ P2 ∧ sinkN f (P ++ x :: T) j = P1 ++ x :: P2 ++ T ∧ (∀ y ∈ P2, f x < f y) ∧ (P1 = [] ∨ ∃ Q y, P1 = Q ++ [y] ∧ ¬ f x < f y)
  | 0, P, x, T, h => by
    rw [List.length_eq_zero_iff] at h
    subst h
    exact ⟨[], [], rfl, rfl, (fun y hy => by cases hy), .inl rfl⟩
  | j + 1, P, x, T, h => by
    have hne : P ≠ [] := by intro e; subst e; simp at h
    obtain ⟨Q, y, rfl⟩ : ∃ Q y, P = Q ++ [y] := ⟨P.dropLast, P.getLast hne, (List.dropLast_concat_getLast hne).symm⟩
    have hQ : Q.length = j := by simpa using h
    have g1 : (Q ++ [y] ++ x :: T).getD (j + 1) 0 = x := by
      rw [List.getD_eq_getElem?_getD, List.append_assoc, List.getElem?_append_right (by omega), hQ]
      simp
    have g0 : (Q ++ [y] ++ x :: T).getD j 0 = y := by
      rw [List.getD_eq_getElem?_getD, List.append_assoc, List.getElem?_append_right (by omega), hQ]
      simp
    rw [sinkN, g1, g0]
    by_cases hlt : f x < f y
    · rw [if_pos hlt]
      have hsw : swapN (Q ++ [y] ++ x :: T) j = Q ++ x :: (y :: T) := by
        rw [swapN, g1, g0, List.append_assoc, List.set_append_right _ _ (by omega), List.set_append_right _ _ (by omega), hQ]
        simp
      rw [hsw]
      obtain ⟨P1, P2, e1, e2, e3, e4⟩ := z375 f j Q x (y :: T) hQ
      refine ⟨P1, P2 ++ [y], by rw [e1, List.append_assoc], by rw [e2]; simp, fun z hz => ?_, e4⟩
      rcases List.mem_append.1 hz with hz | hz
      · exact e3 z hz
      · rw [List.mem_singleton.1 hz]; exact hlt
    · rw [if_neg hlt]
      exact ⟨Q ++ [y], [], by simp, by simp, (fun z hz => by cases hz), .inr ⟨Q, y, rfl, hlt⟩⟩
def Ahead (f : Nat → Int) (a b : Nat) : Prop := f a < f b ∨ (f a = f b ∧ a < b)
theorem z384 (f : Nat → Int) (n : Nat) : ∀ i, i < n → ∃ S, insN f (List.range n) i = S ++ List.range' (i + 1) (n - (i + 1)) ∧ S.Perm (List.range (i + 1)) ∧ S.Pairwise (Ahead f)
  | 0, h => by
    refine ⟨[0], ?_, List.Perm.refl _, by simp⟩
    rw [insN, List.range_eq_range', show n = (n - 1) + 1 by omega, List.range'_succ]
    simp
  | i + 1, h => by
    obtain ⟨S, e1, e2, e3⟩ := z384 f n i (by omega)
    have hl : S.length = i + 1 := by rw [e2.length_eq, List.length_range]
    rw [insN, e1, show n - (i + 1) = (n - (i + 1 + 1)) + 1 by omega, List.range'_succ]
    obtain ⟨P1, P2, p1, p2, p3, p4⟩ := z375 f (i + 1) S (i + 1) (List.range' (i + 1 + 1) (n - (i + 1 + 1))) hl
    subst p1
    have hlt : ∀ z ∈ P1 ++ P2, z < i + 1 := fun z hz => List.mem_range.1 (e2.mem_iff.1 hz)
    refine ⟨P1 ++ (i + 1) :: P2, by rw [p2], ?_, ?_⟩
    · rw [List.range_succ]
      exact List.perm_middle.trans ((e2.cons (i + 1)).trans (List.perm_append_comm (l₁ := [i + 1])))
    · rw [List.pairwise_append] at e3 ⊢
      obtain ⟨a1, a2, a3⟩ := e3
      have hle : ∀ a ∈ P1, f a ≤ f (i + 1) := fun a ha => by
        rcases p4 with p4 | ⟨Q, y, rfl, hny⟩
        · rw [p4] at ha; cases ha
        · rcases List.mem_append.1 ha with hq | hq
          · rw [List.pairwise_append] at a1
            have := a1.2.2 a hq y (by simp)
            rcases this with h1 | h1 <;> omega
          · rw [List.mem_singleton.1 hq]; omega
      refine ⟨a1, List.pairwise_cons.2 ⟨fun b hb => .inl (p3 b hb), a2⟩, fun a ha b hb => ?_⟩
      rcases List.mem_cons.1 hb with rfl | hb
      · have h1 := hle a ha
        have h2 := hlt a (by simp [ha])
        by_cases e : f a = f (i + 1)
        · exact .inr ⟨e, h2⟩
        · exact .inl (by omega)
      · exact a3 a ha b hb
theorem z187 (k : Kitchen) : (ordK k).Perm (List.range k.batches.length) ∧ (ordK k).Pairwise (Ahead fun i => (batAt k i).last) := by
  unfold ordK
  obtain ⟨n, hn⟩ : ∃ n, n = k.batches.length := ⟨_, rfl⟩
  rw [← hn]
  cases n with
  | zero => exact ⟨List.Perm.refl _, List.Pairwise.nil⟩
  | succ n =>
    obtain ⟨S, e1, e2, e3⟩ := z384 (fun i => (batAt k i).last) (n + 1) n (by omega)
    rw [Nat.add_sub_cancel, e1, Nat.sub_self, List.range'_zero, List.append_nil]
    exact ⟨e2, e3⟩
def sumO (f : Nat → Int) : List Nat → Int
  | [] => 0
  | i :: o => f i + sumO f o
theorem z829 {f : Nat → Int} {a b : List Nat} (h : a.Perm b) : sumO f a = sumO f b := by
  induction h with
  | nil => rfl
  | cons x _ ih => rw [sumO, sumO, ih]
  | swap x y l => simp only [sumO]; omega
  | trans _ _ h1 h2 => rw [h1, h2]
theorem z291 (f : Nat → Int) : ∀ a b, sumO f (a ++ b) = sumO f a + sumO f b
  | [], b => by simp [sumO]
  | x :: a, b => by rw [List.cons_append, sumO, sumO, z291 f a b]; omega
theorem z224 (f : Nat → Int) : ∀ n, sumO f (List.range n) = sumN f n
  | 0 => rfl
  | n + 1 => by rw [List.range_succ, z291, z224 f n, sumN]; simp [sumO]
theorem z116 {f g : Nat → Int} : ∀ o, (∀ i ∈ o, f i = g i) → sumO f o = sumO g o
  | [], _ => rfl
  | x :: o, h => by rw [sumO, sumO, h x (by simp), z116 o fun i hi => h i (by simp [hi])]
theorem z830 {f g : Nat → Int} : ∀ o, (∀ i ∈ o, f i ≤ g i) → sumO f o ≤ sumO g o
  | [], _ => Int.le_refl _
  | x :: o, h => by
    have := h x (by simp)
    have := z830 o fun i hi => h i (by simp [hi])
    rw [sumO, sumO]; omega
theorem z290 {f : Nat → Int} : ∀ o, (∀ i ∈ o, 0 ≤ f i) → 0 ≤ sumO f o
  | [], _ => Int.le_refl _
  | x :: o, h => by
    have := h x (by simp)
    have := z290 o fun i hi => h i (by simp [hi])
    rw [sumO]; omega
def vO (k : Kitchen) (g : Nat) (t : Int) (l : List Int) (o : List Nat) : Int := sumO (fun i => if (batAt k i).good = (g : Int) ∧ t ≤ (batAt k i).last then getI l (i : Int) else 0) o
theorem z1010 {k : Kitchen} {g : Nat} {t : Int} {l : List Int} {i : Nat} {x : Int} (hi : i < l.length) {o : List Nat} (ho : i ∉ o) : vO k g t (l.set i x) o = vO k g t l o := z116 o fun j hj => by
  have e : getI (l.set i x) (j : Int) = getI l (j : Int) := by rw [z83 hi, if_neg (fun e => ho (by rw [← e]; exact hj))]
  rw [e]
theorem z217 (k : Kitchen) (g : Nat) (t : Int) (l : List Int) (i : Nat) (o : List Nat) : vO k g t l (i :: o) = (if (batAt k i).good = (g : Int) ∧ t ≤ (batAt k i).last then getI l (i : Int) else 0) + vO k g t l o := rfl
theorem z816 {k : Kitchen} {g : Nat} {t : Int} {l : List Int} (h : AmtOk l) (o : List Nat) : 0 ≤ vO k g t l o := z290 o fun i _ => by
  have := (h.get (i : Int)).1
  split <;> omega
theorem z966 {k : Kitchen} {g : Nat} {t u : Int} (htu : t ≤ u) {l : List Int} (h : AmtOk l) (o : List Nat) : vO k g u l o ≤ vO k g t l o := z830 o fun i _ => by
  have := (h.get (i : Int)).1
  by_cases h1 : (batAt k i).good = (g : Int) ∧ u ≤ (batAt k i).last
  · rw [if_pos h1, if_pos ⟨h1.1, by omega⟩]; exact Int.le_refl _
  · rw [if_neg h1]
    split <;> omega
theorem z399 {k : Kitchen} {g : Nat} : ∀ (o : List Nat) (l : List Int) (m : Int), o.Nodup → o.Pairwise (Ahead fun i => (batAt k i).last) → (∀ x ∈ o, x < l.length) → AmtOk l → 0 ≤ m → (∀ i ∈ o, 0 ≤ (batAt k i).last) → m ≤ vO k g 0 l o →
    (o.foldl (takeStep k g) (l, m)).2 = 0 ∧ ∀ t : Int, 0 ≤ t → vO k g t (o.foldl (takeStep k g) (l, m)).1 o = min (vO k g t l o) (vO k g 0 l o - m)
  | [], l, m, _, _, _, _, hm, _, h => by
    simp only [vO, sumO] at h ⊢
    have : m = 0 := by omega
    subst this
    exact ⟨rfl, fun t _ => rfl⟩
  | i :: o, l, m, hnd, hp, hx, ha, hm, hlast, h => by
    rw [List.nodup_cons] at hnd
    rw [List.pairwise_cons] at hp
    have hil := hx i (by simp)
    have hli := ha.get (i : Int)
    rw [List.foldl_cons]
    -- one step
    obtain ⟨s1, s2, s3, s4⟩ := z100 (k := k) (good := g) (a := (l, m)) (i := i) ha hm
    have hkeep : ∀ (a : List Int × Int) (o : List Nat), i ∉ o → i < a.1.length → (∀ x ∈ o, x < a.1.length) → getI (o.foldl (takeStep k g) a).1 (i : Int) = getI a.1 (i : Int) := by
      intro a o
      induction o generalizing a with
      | nil => intro _ _ _; rfl
      | cons j o ih =>
        intro hni hia hxo
        rw [List.foldl_cons]
        have hlen : (takeStep k g a j).1.length = a.1.length := by unfold takeStep; split <;> simp
        rw [ih _ (fun hc => hni (by simp [hc])) (by rw [hlen]; exact hia) (fun x hx => by rw [hlen]; exact hxo x (by simp [hx]))]
        unfold takeStep
        split
        · rw [z83 (hxo j (by simp)), if_neg (fun e => hni (by simp [e]))]
        · rfl
    by_cases hg : (batAt k i).good = (g : Int)
    · have hstep : takeStep k g (l, m) i = (l.set i (getI l (i : Int) - min m (getI l (i : Int))), m - min m (getI l (i : Int))) := by rw [takeStep, if_pos hg]
      rw [hstep] at s1 s2 s3 ⊢
      dsimp only at s1 s2 s3
      obtain ⟨x, hxd⟩ : ∃ x, x = min m (getI l (i : Int)) := ⟨_, rfl⟩
      rw [← hxd] at s1 s2 s3 ⊢
      have hx1 : 0 ≤ x ∧ x ≤ m ∧ x ≤ getI l (i : Int) := by omega
      have hv0 : ∀ t, vO k g t (l.set i (getI l (i : Int) - x)) o = vO k g t l o := fun t => z1010 hil hnd.1
      have h0 : vO k g 0 l (i :: o) = getI l (i : Int) + vO k g 0 l o := by rw [z217, if_pos ⟨hg, hlast i (by simp)⟩]
      rw [h0] at h
      have hno := z816 (k := k) (g := g) (t := 0) ha o
      obtain ⟨r1, r2⟩ := z399 o (l.set i (getI l (i : Int) - x)) (m - x) hnd.2 hp.2 (fun y hy => by rw [s2]; exact hx y (by simp [hy])) s1 s3 (fun y hy => hlast y (by simp [hy])) (by rw [hv0]; omega)
      refine ⟨r1, fun t ht => ?_⟩
      have hk := hkeep (l.set i (getI l (i : Int) - x), m - x) o hnd.1 (by rw [s2]; exact hil) (fun y hy => by rw [s2]; exact hx y (by simp [hy]))
      rw [z83 hil, if_pos rfl] at hk
      have r2t := r2 t ht
      rw [hv0, hv0] at r2t
      have hmono := z966 (k := k) (g := g) ht ha o
      by_cases hl2 : t ≤ (batAt k i).last
      · have z47 : vO k g t l o = vO k g 0 l o := z116 o fun j hj => by
          have : (batAt k i).last ≤ (batAt k j).last := by
            have q := hp.1 j hj
            simp only [Ahead] at q
            omega
          by_cases hgj : (batAt k j).good = (g : Int)
          · rw [if_pos ⟨hgj, by omega⟩, if_pos ⟨hgj, by omega⟩]
          · rw [if_neg (fun e => hgj e.1), if_neg (fun e => hgj e.1)]
        rw [z217, z217, if_pos ⟨hg, hl2⟩, if_pos ⟨hg, hl2⟩, hk, r2t, h0]
        omega
      · rw [z217, z217, if_neg (fun e => hl2 e.2), if_neg (fun e => hl2 e.2), r2t, h0]
        omega
    · have hstep : takeStep k g (l, m) i = (l, m) := by rw [takeStep, if_neg hg]
      rw [hstep]
      have h0 : ∀ (t : Int) (c : List Int), vO k g t c (i :: o) = vO k g t c o := fun t c => by rw [z217, if_neg (fun e => hg e.1), Int.zero_add]
      rw [h0] at h
      obtain ⟨r1, r2⟩ := z399 o l m hnd.2 hp.2 (fun y hy => hx y (by simp [hy])) ha hm (fun y hy => hlast y (by simp [hy])) h
      exact ⟨r1, fun t ht => by rw [h0, h0, h0]; exact r2 t ht⟩
end Go.Ab
namespace Go.Ab
open Go.RowKit Go.Proofs
def vK (k : Kitchen) (g : Nat) (t : Int) (l : List Int) : Int := vO k g t l (List.range k.batches.length)
theorem z817 (k : Kitchen) (g : Nat) (t : Int) (l : List Int) : vO k g t l (ordK k) = vK k g t l := z829 (z187 k).1
theorem z222 {k : Kitchen} {g good : Nat} (hne : g ≠ good) (t : Int) (p : List Nat) : ∀ (o : List Nat) (a : List Int × Int), (∀ x ∈ o, x < a.1.length) → vO k g t (o.foldl (takeStep k good) a).1 p = vO k g t a.1 p
  | [], a, _ => rfl
  | i :: o, a, h => by
    have hlen : (takeStep k good a i).1.length = a.1.length := by unfold takeStep; split <;> simp
    rw [List.foldl_cons, z222 hne t p o _ (fun x hx => by rw [hlen]; exact h x (by simp [hx]))]
    unfold takeStep
    split
    · rename_i hg
      refine z116 p fun j _ => ?_
      have hil := h i (by simp)
      by_cases e : j = i
      · subst e
        rw [if_neg (fun c => hne (by have := c.1; omega)), if_neg (fun c => hne (by have := c.1; omega))]
      · have e2 := z83 hil (getI a.1 (i : Int) - min a.2 (getI a.1 (i : Int))) j
        rw [if_neg e] at e2
        dsimp only
        rw [e2]
    · rfl
theorem z370 {k : Kitchen} (hg : KitWide k) {needs C : List Int} (hl : C.length = k.batches.length) (ha : AmtOk C) (hn : ∀ x ∈ needs, 0 ≤ x) : ∀ G,
    ((takeTo k (ordK k) needs C G).isSome = true ↔ ∀ g, g < G → getI needs (g : Int) ≤ vK k g 0 C) ∧
      ∀ c, takeTo k (ordK k) needs C G = some c → (∀ g, g < G → ∀ t : Int, 0 ≤ t → vK k g t c = min (vK k g t C) (vK k g 0 C - getI needs (g : Int))) ∧ ∀ g, G ≤ g → ∀ t : Int, vK k g t c = vK k g t C
  | 0 => ⟨⟨fun _ g h => by omega, fun _ => rfl⟩, fun c hc => by cases hc; exact ⟨fun g h => by omega, fun _ _ _ => rfl⟩⟩
  | G + 1 => by
    obtain ⟨ih1, ih2⟩ := z370 hg hl ha hn G
    obtain ⟨o1, o2⟩ := z187 k
    have hnd : (ordK k).Nodup := o1.nodup_iff.2 List.nodup_range
    rw [takeTo]
    cases hx : takeTo k (ordK k) needs C G with
    | none =>
      rw [hx] at ih1
      refine ⟨⟨(fun h => by cases h), fun h => ?_⟩, (fun c hc => by cases hc)⟩
      have := ih1.2 fun g hgl => h g (by omega)
      cases this
    | some d =>
      obtain ⟨d1, d2⟩ := z99 ha hn G d hx
      obtain ⟨v1, v2⟩ := ih2 d hx
      rw [hx] at ih1
      have i1 := ih1.1 rfl
      have hng := z536 hn G
      have hxl : ∀ x ∈ ordK k, x < d.length := fun x hx => by rw [d2, hl]; exact z41 hx
      have hw := z822 (k := k) (good := G) (q := fun x => decide (x = (G : Int))) (ordK k) (a := (d, getI needs (G : Int))) (fun x hx => z41 hx) (by rw [d2, hl])
      obtain ⟨k1, k2, k3, k4⟩ := z167 (k := k) (good := G) (ordK k) (a := (d, getI needs (G : Int))) d1 hng
      have hv0 : vK k G 0 d = wOf k (fun x => decide (x = (G : Int))) d := by
        rw [vK, vO, z224, wOf]
        refine z225 _ fun i hi => ?_
        have := (z964 hg hi).2.2.1
        by_cases e : (batAt k i).good = (G : Int)
        · rw [if_pos ⟨e, this⟩, if_pos (decide_eq_true e)]
        · rw [if_neg (fun c => e c.1), if_neg (by simpa using e)]
      have hpos : 0 ≤ wOf k (fun x => decide (x = (G : Int))) ((ordK k).foldl (takeStep k G) (d, getI needs (G : Int))).1 := z132 _ fun i _ => by
        have := (k1.get (i : Int)).1
        split <;> omega
      dsimp only at hw ⊢
      rw [if_pos (decide_eq_true rfl)] at hw
      have edf := fun h => z399 (k := k) (g := G) (ordK k) d (getI needs (G : Int)) hnd o2 hxl d1 hng (fun i hi => (z964 hg (z41 hi)).2.2.1) h
      rw [z817] at edf
      have hvG := v2 G (Nat.le_refl _) 0
      by_cases hz : (takeG k (ordK k) G d (getI needs (G : Int))).2 > 0
      · rw [if_pos hz]
        refine ⟨⟨(fun h => by cases h), fun h => ?_⟩, (fun c hc => by cases hc)⟩
        have := (edf (by rw [hvG]; exact h G (by omega))).1
        unfold takeG at hz
        omega
      · rw [if_neg hz]
        have hm : ((ordK k).foldl (takeStep k G) (d, getI needs (G : Int))).2 = 0 := by unfold takeG at hz; omega
        rw [hm] at hw
        have hle : getI needs (G : Int) ≤ vK k G 0 d := by omega
        refine ⟨⟨fun _ g hgl => ?_, fun _ => rfl⟩, fun c hc => ?_⟩
        · by_cases e : g = G
          · subst e; rw [← hvG]; exact hle
          · exact i1 g (by omega)
        · cases hc
          refine ⟨fun g hgl t ht => ?_, fun g hgl t => ?_⟩
          · by_cases e : g = G
            · subst e
              have := (edf hle).2 t ht
              rw [z817, z817] at this
              rw [takeG, this, v2 g (Nat.le_refl _), v2 g (Nat.le_refl _)]
            · have := z222 (k := k) (g := g) (good := G) e t (List.range k.batches.length) (ordK k) (d, getI needs (G : Int)) hxl
              rw [takeG]
              exact this.trans (v1 g (by omega) t ht)
          · have := z222 (k := k) (g := g) (good := G) (by omega) t (List.range k.batches.length) (ordK k) (d, getI needs (G : Int)) hxl
            rw [takeG]
            exact this.trans (v2 g (by omega) t)
theorem z1050 {k : Kitchen} {d : Nat} {l : List Int} {w : Int} (hl : l.length = k.batches.length) (ha : AmtOk l) (g : Nat) (t : Int) : vK k g t (clrTo k (d : Int) l w k.batches.length).1 = vK k g (max t (d : Int)) l := by
  obtain ⟨_, _, _, h4, h5⟩ := z724 (day := (d : Int)) (w := w) hl ha k.batches.length (Nat.le_refl _)
  refine z116 _ fun i hi => ?_
  have hi := List.mem_range.1 hi
  by_cases hd : (batAt k i).last < (d : Int)
  · rw [h4 i hi hd, if_neg (fun c : (batAt k i).good = (g : Int) ∧ max t (d : Int) ≤ (batAt k i).last => by have := c.2; omega)]
    split <;> rfl
  · rw [h5 i hi hd]
    by_cases hc : (batAt k i).good = (g : Int) ∧ t ≤ (batAt k i).last
    · rw [if_pos hc, if_pos ⟨hc.1, by have := hc.2; omega⟩]
    · rw [if_neg hc, if_neg (fun c => hc ⟨c.1, by have := c.2; omega⟩)]
def sumF (f : Nat → Int) : Nat → Nat → Int
  | _, 0 => 0
  | t, c + 1 => f t + sumF f (t + 1) c
theorem z292 {f : Nat → Int} : ∀ c t, (∀ i, t ≤ i → i < t + c → 0 ≤ f i) → 0 ≤ sumF f t c
  | 0, _, _ => Int.le_refl _
  | c + 1, t, h => by
    have := h t (Nat.le_refl _) (by omega)
    have := z292 (f := f) c (t + 1) fun i h1 h2 => h i (by omega) (by omega)
    rw [sumF]; omega
theorem z433 {f : Nat → Int} {t D : Nat} (h : t < D) : sumF f t (D - t) = f t + sumF f (t + 1) (D - (t + 1)) := by
  rw [show D - t = (D - (t + 1)) + 1 by omega, sumF]
theorem z832 {f : Nat → Int} {D : Nat} {d : Nat} (h : ∀ i, d ≤ i → i < D → 0 ≤ f i) : ∀ j, d + j ≤ D → sumF f (d + j) (D - (d + j)) ≤ sumF f d (D - d)
  | 0, _ => Int.le_refl _
  | j + 1, hj => by
    have ih := z832 h j (by omega)
    rw [z433 (show d + j < D by omega)] at ih
    have := h (d + j) (by omega) (by omega)
    rw [show d + (j + 1) = d + j + 1 by omega]
    omega
structure DayStep (k : Kitchen) (l l' : List Int) (d : Nat) (nd : Nat → Int) : Prop where
  val : ∀ g, g < k.allerg.length → ∀ t : Nat, d ≤ t → vK k g (t : Int) l' = min (vK k g (t : Int) l) (vK k g (d : Int) l - nd g)
theorem z911 {k : Kitchen} (hg : KitWide k) {M : List (List Int)} (hM : shapedB (menuB k) M k.days = true) {cnt : Nat → Nat → Int} (hc : CntOk k cnt) {d : Nat} {b : List Int × Int} (hd : d < M.length) (hb : runSt k M cnt d = some b) :
    ((runSt k M cnt (d + 1)).isSome = true ↔ ∀ g, g < k.allerg.length → getI (needD k M cnt d) (g : Int) ≤ vK k g (d : Int) b.1) ∧
      ∀ a, runSt k M cnt (d + 1) = some a → DayStep k b.1 a.1 d fun g => getI (needD k M cnt d) (g : Int) := by
  obtain ⟨r1, r2, r3, r4⟩ := z202 hg hM hc d b (by omega) hb
  obtain ⟨r, hr⟩ : ∃ r, M[d]? = some r := ⟨_, List.getElem?_eq_getElem hd⟩
  obtain ⟨_, _, hdo⟩ := z109 hg hM hc hr
  have hnd : needD k M cnt d = needL k r (cnt d) := by rw [needD, List.getD, hr]; rfl
  have hn0 : ∀ x ∈ needD k M cnt d, 0 ≤ x := fun x hx => by rw [hnd] at hx; exact (z48 hg hdo x hx).1
  obtain ⟨c1, c2, c3⟩ := z42 (k := k) (day := (d : Int)) (w := b.2) r1 k.batches.length
  have c4 := z32 k (d : Int) b.1 b.2 k.batches.length
  obtain ⟨t1, t2⟩ := z370 hg (C := (clrTo k (d : Int) b.1 b.2 k.batches.length).1) (by omega) c1 hn0 k.allerg.length
  have hv : ∀ g t, vK k g t (clrTo k (d : Int) b.1 b.2 k.batches.length).1 = vK k g (max t (d : Int)) b.1 := fun g t => z1050 r2 r1 g t
  have e : runSt k M cnt (d + 1) = (takeTo k (ordK k) (needD k M cnt d) (clrTo k (d : Int) b.1 b.2 k.batches.length).1 k.allerg.length).map fun l => (l, (clrTo k (d : Int) b.1 b.2 k.batches.length).2) := by rw [runSt, hb]; rfl
  rw [e]
  refine ⟨?_, fun a ha => ?_⟩
  · rw [Option.isSome_map, t1]
    refine forall_congr' fun g => forall_congr' fun _ => ?_
    rw [hv, show max (0 : Int) (d : Int) = (d : Int) by omega]
  · obtain ⟨l, hl, rfl⟩ := Option.map_eq_some_iff.1 ha
    refine ⟨fun g hgl t ht => ?_⟩
    have := (t2 l hl).1 g hgl (t : Int) (by omega)
    rw [hv, hv, show max (t : Int) (d : Int) = (t : Int) by omega, show max (0 : Int) (d : Int) = (d : Int) by omega] at this
    exact this
def Enough (k : Kitchen) (nd : Nat → Nat → Int) (d D : Nat) (l : List Int) : Prop := ∀ g, g < k.allerg.length → ∀ t, d ≤ t → t < D → sumF (fun e => nd e g) t (D - t) ≤ vK k g (t : Int) l
theorem z47 {k : Kitchen} (hg : KitWide k) {M : List (List Int)} (hM : shapedB (menuB k) M k.days = true) {cnt : Nat → Nat → Int} (hc : CntOk k cnt) {D : Nat} (hD : D ≤ M.length) :
    (runSt k M cnt D).isSome = true ↔ Enough k (fun e g => getI (needD k M cnt e) (g : Int)) 0 D (amtK k) := by
  obtain ⟨nd, hnd⟩ : ∃ nd : Nat → Nat → Int, nd = fun (e g : Nat) => getI (needD k M cnt e) (g : Int) := ⟨_, rfl⟩
  rw [← hnd]
  have hn0 : ∀ e g, e < D → 0 ≤ nd e g := fun e g he => by
    rw [hnd]
    obtain ⟨r, hr⟩ : ∃ r, M[e]? = some r := ⟨_, List.getElem?_eq_getElem (by omega)⟩
    obtain ⟨_, _, hdo⟩ := z109 hg hM hc hr
    have h2 : needD k M cnt e = needL k r (cnt e) := by rw [needD, List.getD, hr]; rfl
    exact z536 (fun x hx => by rw [h2] at hx; exact (z48 hg hdo x hx).1) g
  have step : ∀ d b, d < D → runSt k M cnt d = some b → ((runSt k M cnt (d + 1)).isSome = true ↔ ∀ g, g < k.allerg.length → nd d g ≤ vK k g (d : Int) b.1) ∧ ∀ a, runSt k M cnt (d + 1) = some a → DayStep k b.1 a.1 d (nd d) := fun d b hd hb => by
    rw [hnd]
    exact z911 hg hM hc (by omega) hb
  constructor
  · intro h
    -- from the last day back
    have hsome : ∀ s, s ≤ D → ∃ a, runSt k M cnt s = some a := fun s hs => by
      cases hx : runSt k M cnt s with
      | some a => exact ⟨a, rfl⟩
      | none => rw [z170 hx hs] at h; cases h
    have key : ∀ j, j ≤ D → ∀ a, runSt k M cnt (D - j) = some a → Enough k nd (D - j) D a.1 := by
      intro j
      induction j with
      | zero => intro _ a _ g _ t h1 h2; omega
      | succ j ih =>
        intro hj a ha g hgl t ht1 ht2
        obtain ⟨s, hs⟩ : ∃ s, s = D - (j + 1) := ⟨_, rfl⟩
        have hs1 : D - j = s + 1 := by omega
        rw [← hs] at ha ht1
        rw [hs1] at ih
        obtain ⟨a', ha'⟩ := hsome (s + 1) (by omega)
        obtain ⟨p1, p2⟩ := step s a (by omega) ha
        have hneed := p1.1 (by rw [ha']; rfl) g hgl
        have hval := (p2 a' ha').val g hgl
        have en := ih (by omega) a' ha' g hgl
        by_cases e : t = s
        · subst e
          rw [z433 ht2]
          by_cases e2 : t + 1 < D
          · have h1 := en (t + 1) (Nat.le_refl _) e2
            have h2 := hval (t + 1) (by omega)
            omega
          · rw [show D - (t + 1) = 0 by omega, sumF]
            omega
        · have h1 := en t (by omega) ht2
          have h2 := hval t (by omega)
          omega
    have := key D (Nat.le_refl _) (amtK k, 0) (by rw [Nat.sub_self]; rfl)
    rwa [Nat.sub_self] at this
  · intro h
    have key : ∀ s, s ≤ D → ∃ a, runSt k M cnt s = some a ∧ Enough k nd s D a.1 := by
      intro s
      induction s with
      | zero => intro _; exact ⟨(amtK k, 0), rfl, h⟩
      | succ s ih =>
        intro hs
        obtain ⟨a, ha, en⟩ := ih (by omega)
        obtain ⟨p1, p2⟩ := step s a (by omega) ha
        have hs2 : (runSt k M cnt (s + 1)).isSome = true := p1.2 fun g hgl => by
          have h1 := en g hgl s (Nat.le_refl _) (by omega)
          rw [z433 (by omega : s < D)] at h1
          have h2 := z292 (f := fun e => nd e g) (D - (s + 1)) (s + 1) fun i h1 h2 => hn0 i g (by omega)
          omega
        obtain ⟨a', ha'⟩ := Option.isSome_iff_exists.1 hs2
        refine ⟨a', ha', fun g hgl t ht1 ht2 => ?_⟩
        have hval := (p2 a' ha').val g hgl t (by omega)
        have h1 := en g hgl t (by omega) ht2
        have h2 := en g hgl s (Nat.le_refl _) (by omega)
        rw [z433 (by omega : s < D)] at h2
        have h3 := z832 (f := fun e => nd e g) (D := D) (d := s + 1) (fun i h1 h2 => hn0 i g h2) (t - (s + 1)) (by omega)
        rw [show s + 1 + (t - (s + 1)) = t by omega] at h3
        omega
    obtain ⟨a, ha, _⟩ := key D (Nat.le_refl _)
    rw [ha]
    rfl
theorem z937 {k : Kitchen} {M : List (List Int)} {cnt : Nat → Nat → Int} {d n : Nat} (h : d ≤ n) : d ≤ lastD k M cnt n ↔ (runSt k M cnt d).isSome = true := by
  constructor
  · intro hd
    have hs := z241 k M cnt n
    cases hx : runSt k M cnt d with
    | some a => rfl
    | none => rw [z170 hx hd] at hs; cases hs
  · intro hs
    induction h with
    | refl => rw [z129 hs]; exact Nat.le_refl _
    | @step m hm ih =>
      rw [lastD]
      split
      · exact Nat.le_succ_of_le hm
      · exact ih
end Go.Ab
namespace Go.Ab
open Go.RowKit Go.Proofs
set_option maxHeartbeats 16000000
set_option maxRecDepth 20000
attribute [local irreducible] WalkL Walk
def oldTo (k : Kitchen) (l : List Int) (g : Nat) : Nat → Int
  | 0 => -1
  | i + 1 => if (batAt k i).good = (g : Int) ∧ getI l (i : Int) > 0 ∧ (oldTo k l g i < 0 ∨ (batAt k i).last < (batAt k (oldTo k l g i).toNat).last) then (i : Int) else oldTo k l g i
theorem z93 (k : Kitchen) (l : List Int) (g : Nat) : ∀ n, (oldTo k l g n = -1 ∧ ∀ j : Nat, j < n → (batAt k j).good = (g : Int) → ¬ getI l (j : Int) > 0) ∨
    ∃ i : Nat, oldTo k l g n = (i : Int) ∧ i < n ∧ (batAt k i).good = (g : Int) ∧ getI l (i : Int) > 0 ∧ ∀ j : Nat, j < n → (batAt k j).good = (g : Int) → getI l (j : Int) > 0 → j ≠ i → Ahead (fun i => (batAt k i).last) i j
  | 0 => .inl ⟨rfl, fun j h => by omega⟩
  | n + 1 => by
    rw [oldTo]
    by_cases hg : (batAt k n).good = (g : Int) ∧ getI l (n : Int) > 0
    · rcases z93 k l g n with ⟨h1, h2⟩ | ⟨i, h1, h2, h3, h4, h5⟩
      · rw [h1, if_pos ⟨hg.1, hg.2, .inl (by decide)⟩]
        refine .inr ⟨n, rfl, Nat.lt_succ_self _, hg.1, hg.2, fun j hj hgj hlj hne => absurd hlj (h2 j (by omega) hgj)⟩
      · rw [h1, Int.toNat_natCast]
        by_cases hl : (batAt k n).last < (batAt k i).last
        · rw [if_pos ⟨hg.1, hg.2, .inr hl⟩]
          refine .inr ⟨n, rfl, Nat.lt_succ_self _, hg.1, hg.2, fun j hj hgj hlj hne => ?_⟩
          by_cases e : j = i
          · subst e; exact .inl hl
          · have := h5 j (by omega) hgj hlj e
            simp only [Ahead] at this ⊢
            omega
        · rw [if_neg (fun c => by rcases c.2.2 with c | c <;> omega)]
          refine .inr ⟨i, rfl, by omega, h3, h4, fun j hj hgj hlj hne => ?_⟩
          by_cases e : j = n
          · subst e
            simp only [Ahead]
            omega
          · exact h5 j (by omega) hgj hlj hne
    · rw [if_neg (fun c => hg ⟨c.1, c.2.1⟩)]
      rcases z93 k l g n with ⟨h1, h2⟩ | ⟨i, h1, h2, h3, h4, h5⟩
      · refine .inl ⟨h1, fun j hj hgj => ?_⟩
        by_cases e : j = n
        · subst e; exact fun c => hg ⟨hgj, c⟩
        · exact h2 j (by omega) hgj
      · refine .inr ⟨i, h1, by omega, h3, h4, fun j hj hgj hlj hne => ?_⟩
        by_cases e : j = n
        · subst e; exact absurd ⟨hgj, hlj⟩ hg
        · exact h5 j (by omega) hgj hlj hne
theorem z704 {l : List Int} {i : Nat} (hi : i < l.length) : l.set i (getI l (i : Int)) = l := by
  refine List.ext_getElem? fun j => ?_
  rw [List.getElem?_set]
  by_cases h : i = j
  · subst h
    rw [if_pos rfl, if_pos hi, z139, List.getD_eq_getElem?_getD, List.getElem?_eq_getElem hi]
    rfl
  · rw [if_neg h]
theorem z166 {k : Kitchen} {g : Nat} : ∀ (o : List Nat) (l : List Int) (m : Int), (∀ x ∈ o, x < l.length) → 0 ≤ m → (∀ j ∈ o, (batAt k j).good = (g : Int) → getI l (j : Int) = 0) → o.foldl (takeStep k g) (l, m) = (l, m)
  | [], _, _, _, _, _ => rfl
  | i :: o, l, m, hx, hm, h => by
    have e : takeStep k g (l, m) i = (l, m) := by
      unfold takeStep
      split
      · rename_i hg
        have h0 := h i (by simp) hg
        have e1 : min m (getI l (i : Int)) = 0 := by omega
        dsimp only
        rw [e1, Int.sub_zero, Int.sub_zero, z704 (hx i (by simp))]
      · rfl
    rw [List.foldl_cons, e]
    exact z166 o l m (fun x hx' => hx x (by simp [hx'])) hm fun j hj => h j (by simp [hj])
theorem z718 {k : Kitchen} {g : Nat} {l : List Int} {m : Int} {i : Nat} (hl : l.length = k.batches.length) (ha : AmtOk l) (hm : 0 ≤ m) (ho : oldTo k l g k.batches.length = (i : Int)) :
    (ordK k).foldl (takeStep k g) (l.set i (getI l (i : Int) - min m (getI l (i : Int))), m - min m (getI l (i : Int))) = (ordK k).foldl (takeStep k g) (l, m) := by
  obtain ⟨o1, o2⟩ := z187 k
  rcases z93 k l g k.batches.length with ⟨h1, _⟩ | ⟨i', h1, h2, h3, h4, h5⟩
  · omega
  · have e : i' = i := by omega
    subst e
    obtain ⟨A, B, hAB⟩ := List.append_of_mem (o1.mem_iff.2 (List.mem_range.2 h2))
    have hnd : (ordK k).Nodup := o1.nodup_iff.2 List.nodup_range
    have hlt : ∀ x ∈ ordK k, x < l.length := fun x hx => by rw [hl]; exact z41 hx
    rw [hAB] at hnd o2 hlt ⊢
    rw [List.pairwise_append] at o2
    rw [List.nodup_append] at hnd
    have hiA : ∀ j ∈ A, j ≠ i' := fun j hj e => hnd.2.2 j hj i' (by simp) e
    have hA : ∀ j ∈ A, (batAt k j).good = (g : Int) → getI l (j : Int) = 0 := fun j hj hgj => by
      have hn := (ha.get (j : Int)).1
      by_cases hp : getI l (j : Int) > 0
      · have q1 := h5 j (by rw [← hl]; exact hlt j (by simp [hj])) hgj hp (hiA j hj)
        have q2 := o2.2.2 j hj i' (by simp)
        simp only [Ahead] at q1 q2
        omega
      · omega
    obtain ⟨t, ht⟩ : ∃ t, t = min m (getI l (i' : Int)) := ⟨_, rfl⟩
    have hti := (ha.get (i' : Int)).1
    rw [← ht]
    have hil : i' < l.length := hlt i' (by simp)
    rw [List.foldl_append, List.foldl_append, z166 A l m (fun x hx => hlt x (by simp [hx])) hm hA,
      z166 A _ (m - t) (fun x hx => by rw [List.length_set]; exact hlt x (by simp [hx])) (by omega) (fun j hj hgj => by rw [z83 hil, if_neg (hiA j hj)]; exact hA j hj hgj), List.foldl_cons, List.foldl_cons]
    have e1 : takeStep k g (l, m) i' = (l.set i' (getI l (i' : Int) - t), m - t) := by rw [takeStep, if_pos h3, ht]
    have e2 : takeStep k g (l.set i' (getI l (i' : Int) - t), m - t) i' = (l.set i' (getI l (i' : Int) - t), m - t) := by
      rw [takeStep, if_pos h3]
      dsimp only
      rw [z83 hil, if_pos rfl]
      have e3 : min (m - t) (getI l (i' : Int) - t) = 0 := by omega
      rw [e3, Int.sub_zero, Int.sub_zero, List.set_set]
    rw [e1, e2]
theorem z1008 (k : Kitchen) (hb : k.batches.length ≤ 16) (l : List Int) (g : Nat) (hl : l.length = k.batches.length) : Fn Try.prog 101 [.agg k.cells, .sl (intRows l), .i (g : Int)] (.i (oldTo k l g k.batches.length)) := by
  have hr := z93 k l g
  obtain ⟨O, hO⟩ : ∃ O : Nat → Int, O = oldTo k l g := ⟨_, rfl⟩
  have hO0 : O 0 = -1 := by rw [hO]; rfl
  have hOs : ∀ i, O (i + 1) = if (batAt k i).good = (g : Int) ∧ getI l (i : Int) > 0 ∧ (O i < 0 ∨ (batAt k i).last < (batAt k (O i).toNat).last) then (i : Int) else O i := fun i => by rw [hO]; rfl
  rw [← hO] at hr ⊢
  refine z18 51 Try.call101 Try.func101 rfl (by decide) fun J => ?_
  simp (maxSteps := 4000000) only [go_sem, St.start, Try.ntmps101, Try.results101, Kitchen.cells]
  repeat (first | refine nx ?_ | (refine z10 fun K hK => ?_; simp (maxSteps := 4000000) only [go_sem]; refine hK _ ?_; clear hK K))
  refine z15 (fun (i : Nat) => [(8, .d (.i (i : Int))), (7, .d (.i (O i)))]) (fun _ => []) (fun i => i ≤ k.batches.length) (fun i => k.batches.length - i) 0 ?_ (Nat.zero_le _) ?_
  · rw [hO0]
    simp (maxSteps := 4000000) only [go_sem]
    refine z13 [] ?_ ?_ rfl rfl <;> simp [lessT, lessM, lessB, AV.less]
    all_goals first | done | rfl | trace_state
  · intro i hi
    simp (maxSteps := 4000000) only [go_sem]
    repeat (first | refine nx ?_ | (refine z10 fun K hK => ?_; simp (maxSteps := 4000000) only [go_sem, z19, hl]; refine hK _ ?_; clear hK K))
    refine z14 rfl (fun hb2 => ?_) (fun hb2 => ?_)
    · have hlt : i < k.batches.length := by simpa using hb2
      have hw : IntKind.i64.wrap ((i : Int) + 1) = ((i + 1 : Nat) : Int) := by rw [z16 (by omega)]; simp
      have gb := z147 hlt
      rw [Batch.row] at gb
      have gl := z21 (l := l) (i := i) (by omega)
      have hni : ¬ ((i : Int) < 0) := by omega
      have hs := hOs i
      by_cases q1 : (batAt k i).good = (g : Int)
      · have e1 : ((batAt k i).good == (g : Int)) = true := by simpa using q1
        by_cases q2 : getI l (i : Int) > 0
        · have e2 : decide (getI l (i : Int) > 0) = true := decide_eq_true q2
          rcases hr i with ⟨p1, _⟩ | ⟨j, p1, p2, _⟩
          · rw [if_pos ⟨q1, q2, .inl (by omega)⟩] at hs
            have e3 : decide (O i < 0) = true := decide_eq_true (by omega)
            repeat (first | refine nx ?_ | (refine z10 fun K hK => ?_; simp (maxSteps := 4000000) only [go_sem]; refine hK _ ?_; clear hK K))
            refine z17 (by kernel_rfl) (by kernel_rfl) fun K hK => ?_
            simp (maxSteps := 4000000) only [go_sem, gb, gl, hni, e1, e2, e3]
            refine ⟨by kernel_rfl, hK _ ?_⟩
            clear hK K
            repeat (first | refine z12 rfl ?_ | refine z11 rfl ?_ | refine nx ?_ | (refine z10 fun K hK => ?_; simp (maxSteps := 4000000) only [go_sem, hw]; refine hK _ ?_; clear hK K))
            refine ⟨rfl, i + 1, ?_, hlt, by omega⟩
            rw [hs]
            refine z13 [] ?_ ?_ rfl rfl <;> simp [lessT, lessM, lessB, AV.less]
            all_goals first | done | rfl | trace_state
          · have e3 : decide ((j : Int) < 0) = false := decide_eq_false (by omega)
            have gj := z147 (k := k) (i := j) (by omega)
            rw [Batch.row] at gj
            have hnj : ¬ ((j : Int) < 0) := by omega
            rw [p1] at hs ⊢
            rw [Int.toNat_natCast] at hs
            by_cases q3 : (batAt k i).last < (batAt k j).last
            · have e4 : decide ((batAt k i).last < (batAt k j).last) = true := decide_eq_true q3
              rw [if_pos ⟨q1, q2, .inr q3⟩] at hs
              repeat (first | refine nx ?_ | (refine z10 fun K hK => ?_; simp (maxSteps := 4000000) only [go_sem]; refine hK _ ?_; clear hK K))
              refine z17 (by kernel_rfl) (by kernel_rfl) fun K hK => ?_
              simp (maxSteps := 4000000) only [go_sem, gb, gl, hni, e1, e2, e3, gj, hnj, e4]
              refine ⟨by kernel_rfl, hK _ ?_⟩
              clear hK K
              repeat (first | refine z12 rfl ?_ | refine z11 rfl ?_ | refine nx ?_ | (refine z10 fun K hK => ?_; simp (maxSteps := 4000000) only [go_sem, hw]; refine hK _ ?_; clear hK K))
              refine ⟨rfl, i + 1, ?_, hlt, by omega⟩
              rw [hs]
              refine z13 [] ?_ ?_ rfl rfl <;> simp [lessT, lessM, lessB, AV.less]
              all_goals first | done | rfl | trace_state
            · have e4 : decide ((batAt k i).last < (batAt k j).last) = false := decide_eq_false q3
              rw [if_neg (fun c => by rcases c.2.2 with c | c <;> omega)] at hs
              repeat (first | refine nx ?_ | (refine z10 fun K hK => ?_; simp (maxSteps := 4000000) only [go_sem]; refine hK _ ?_; clear hK K))
              refine z17 (by kernel_rfl) (by kernel_rfl) fun K hK => ?_
              simp (maxSteps := 4000000) only [go_sem, gb, gl, hni, e1, e2, e3, gj, hnj, e4]
              refine ⟨by kernel_rfl, hK _ ?_⟩
              clear hK K
              repeat (first | refine z12 rfl ?_ | refine z11 rfl ?_ | refine nx ?_ | (refine z10 fun K hK => ?_; simp (maxSteps := 4000000) only [go_sem, hw]; refine hK _ ?_; clear hK K))
              refine ⟨rfl, i + 1, ?_, hlt, by omega⟩
              rw [hs]
              refine z13 [] ?_ ?_ rfl rfl <;> simp [lessT, lessM, lessB, AV.less]
              all_goals first | done | rfl | trace_state
        · have e2 : decide (getI l (i : Int) > 0) = false := decide_eq_false q2
          rw [if_neg (fun c => q2 c.2.1)] at hs
          repeat (first | refine nx ?_ | (refine z10 fun K hK => ?_; simp (maxSteps := 4000000) only [go_sem]; refine hK _ ?_; clear hK K))
          refine z17 (by kernel_rfl) (by kernel_rfl) fun K hK => ?_
          simp (maxSteps := 4000000) only [go_sem, gb, gl, hni, e1, e2]
          refine ⟨by kernel_rfl, hK _ ?_⟩
          clear hK K
          repeat (first | refine z12 rfl ?_ | refine z11 rfl ?_ | refine nx ?_ | (refine z10 fun K hK => ?_; simp (maxSteps := 4000000) only [go_sem, hw]; refine hK _ ?_; clear hK K))
          refine ⟨rfl, i + 1, ?_, hlt, by omega⟩
          rw [hs]
          refine z13 [] ?_ ?_ rfl rfl <;> simp [lessT, lessM, lessB, AV.less]
          all_goals first | done | rfl | trace_state
      · have e1 : ((batAt k i).good == (g : Int)) = false := by simpa using q1
        rw [if_neg (fun c => q1 c.1)] at hs
        repeat (first | refine nx ?_ | (refine z10 fun K hK => ?_; simp (maxSteps := 4000000) only [go_sem]; refine hK _ ?_; clear hK K))
        refine z17 (by kernel_rfl) (by kernel_rfl) fun K hK => ?_
        simp (maxSteps := 4000000) only [go_sem, gb, gl, hni, e1]
        refine ⟨by kernel_rfl, hK _ ?_⟩
        clear hK K
        repeat (first | refine z12 rfl ?_ | refine z11 rfl ?_ | refine nx ?_ | (refine z10 fun K hK => ?_; simp (maxSteps := 4000000) only [go_sem, hw]; refine hK _ ?_; clear hK K))
        refine ⟨rfl, i + 1, ?_, hlt, by omega⟩
        rw [hs]
        refine z13 [] ?_ ?_ rfl rfl <;> simp [lessT, lessM, lessB, AV.less]
        all_goals first | done | rfl | trace_state
    · have he : i = k.batches.length := by (have : ¬ i < k.batches.length := by simpa using hb2); omega
      subst he
      repeat (first | refine nx ?_ | (refine z10 fun K hK => ?_; simp (maxSteps := 4000000) only [go_sem]; refine hK _ ?_; clear hK K))
      simp (maxSteps := 4000000) only [go_sem]
end Go.Ab

namespace Go.Ab
open Go.RowKit Go.Proofs
set_option maxHeartbeats 16000000
set_option maxRecDepth 20000
attribute [local irreducible] WalkL Walk
theorem z318 {k : Kitchen} {g : Nat} : ∀ (o : List Nat) (l : List Int), (∀ x ∈ o, x < l.length) → AmtOk l → o.foldl (takeStep k g) (l, 0) = (l, 0)
  | [], _, _, _ => rfl
  | i :: o, l, hx, ha => by
    have e : takeStep k g (l, 0) i = (l, 0) := by
      unfold takeStep
      split
      · have := (ha.get (i : Int)).1
        have e1 : min 0 (getI l (i : Int)) = 0 := by omega
        dsimp only
        rw [e1, Int.sub_zero, Int.sub_zero, z704 (hx i (by simp))]
      · rfl
    rw [List.foldl_cons, e]
    exact z318 o l (fun x hx' => hx x (by simp [hx'])) ha
def ServeC (k : Kitchen) (l ds cs : List Int) : Option (List Int) → Prop
  | some c => FnG Try.prog 85 [] [] (List.map AV.d [.agg k.cells, .sl (intRows l), .sl (intRows ds), .sl (intRows cs)]) (.tup [.own 0, .d (.bool true)]) [.arr 3 1 (intRows c)]
  | none => Fn Try.prog 85 [.agg k.cells, .sl (intRows l), .sl (intRows ds), .sl (intRows cs)] (.tup [.sl (intRows l), .bool false])
theorem z1077 (k : Kitchen) (hg : KitWide k) (l ds cs : List Int) (hl : l.length = k.batches.length) (ha : AmtOk l) (hd : DayOk k ds fun (g : Nat) => getI cs (g : Int)) (hcl : cs.length = ds.length) :
    ServeC k l ds cs (takeTo k (ordK k) (needL k ds fun (g : Nat) => getI cs (g : Int)) l k.allerg.length) := by
  have hbl := hg.batches
  have hgo := hg.goods
  have e1 : l.length ≤ 549755813888 := by omega
  have hnat : ∀ g : Nat, g < k.allerg.length → getI (needL k ds fun (g : Nat) => getI cs (g : Int)) (g : Int) = needG k ds (fun (g : Nat) => getI cs (g : Int)) g ds.length := fun g hgl => by
    rw [z139, needL, List.getD_eq_getElem?_getD, List.getElem?_map, List.getElem?_range hgl]
    rfl
  have hnok := z48 hg hd
  obtain ⟨nd, hnd⟩ : ∃ nd, nd = needL k ds fun (g : Nat) => getI cs (g : Int) := ⟨_, rfl⟩
  rw [← hnd] at hnok hnat ⊢
  have hn0 : ∀ x ∈ nd, 0 ≤ x := fun x hx => (hnok x hx).1
  have hto := fun g c hc => z99 (k := k) (o := ordK k) ha hn0 g c hc
  have hnrg : ∀ g : Nat, g < k.allerg.length → 0 ≤ getI nd (g : Int) ∧ getI nd (g : Int) ≤ 1099511627776 := fun g _ => z79 hnok (by decide) _
  cases hres : takeTo k (ordK k) nd l k.allerg.length with
  | some c =>
    unfold ServeC
    refine z58 56 Try.call85 Try.func85 rfl (by decide) [15] [] (by simp only [List.length_cons, List.length_nil]; decide) (by kernel_rfl) fun J => ?_
    simp (maxSteps := 4000000) only [go_sem, St.startG, Try.ntmps85, Try.results85, List.map_cons, List.map_nil, List.range_succ,  Kitchen.cells]
    repeat (first | refine nx ?_ | (refine z10 fun K hK => ?_; simp (maxSteps := 4000000) only [go_sem, e1, List.nil_append, List.length_nil, Nat.zero_add]; refine hK _ ?_; clear hK K))
    refine z15 (fun (q : Nat × List Int) => [(11, .d (.i (q.1 : Int)))]) (fun q => [(15, some (.arr 3 1 (intRows q.2)))]) (fun q => q.1 ≤ k.allerg.length ∧ takeTo k (ordK k) nd l q.1 = some q.2) (fun q => k.allerg.length - q.1) (0, l) ?_ ⟨Nat.zero_le _, rfl⟩ ?_
    · simp (maxSteps := 4000000) only [go_sem]
      refine z13 [] ?_ ?_ rfl rfl <;> simp [lessT, lessM, lessB, AV.less]
      all_goals first | done | rfl | trace_state
    · rintro ⟨g, cur⟩ ⟨hgl, hcur⟩
      dsimp only at hgl hcur
      obtain ⟨a1, a2⟩ := hto g cur hcur
      simp (maxSteps := 4000000) only [go_sem]
      repeat (first | refine nx ?_ | (refine z10 fun K hK => ?_; simp (maxSteps := 4000000) only [go_sem, z19]; refine hK _ ?_; clear hK K))
      refine z14 rfl (fun hb => ?_) (fun hb => ?_)
      · have hlt : g < k.allerg.length := by simpa using hb
        have hw : IntKind.i64.wrap ((g : Int) + 1) = ((g + 1 : Nat) : Int) := by rw [z16 (by omega)]; simp
        have h26 := z1061 k hg ds cs g hlt hd hcl
        rw [← hnat g hlt] at h26
        have hnr := hnrg g hlt
        obtain ⟨N, hN⟩ : ∃ N, N = getI nd (g : Int) := ⟨_, rfl⟩
        have hnx : takeTo k (ordK k) nd l (g + 1) = if ((ordK k).foldl (takeStep k g) (cur, N)).2 > 0 then none else some ((ordK k).foldl (takeStep k g) (cur, N)).1 := by rw [takeTo, hcur, hN]; rfl
        rw [← hN] at h26 hnr
        rw [Kitchen.cells] at h26
        repeat (first | refine nx ?_ | (refine z10 fun K hK => ?_; simp (maxSteps := 4000000) only [go_sem]; (repeat (first | (refine ⟨_, .lent (hf := h26) (hd := rfl) (hr := rfl), ?_⟩; simp (maxSteps := 4000000) only [go_sem]) | (refine ⟨_, .given (hf := h26) (hd := rfl) (ha := rfl), ?_⟩; simp (maxSteps := 4000000) only [go_sem]))); refine hK _ ?_; clear hK K))
        refine z15 (fun (q : List Int × Int) => [(12, .d (.i q.2))]) (fun q => [(15, some (.arr 3 1 (intRows q.1)))]) (fun q => (ordK k).foldl (takeStep k g) q = (ordK k).foldl (takeStep k g) (cur, N) ∧ AmtOk q.1 ∧ q.1.length = k.batches.length ∧ 0 ≤ q.2 ∧ q.2 ≤ 1099511627776) (fun q => q.2.toNat) (cur, N) ?_ ⟨rfl, a1, a2.trans hl, hnr.1, hnr.2⟩ ?_
        · simp (maxSteps := 4000000) only [go_sem]
          refine z13 [] ?_ ?_ rfl rfl <;> simp [lessT, lessM, lessB, AV.less]
          all_goals first | done | rfl | trace_state
        · rintro ⟨A, m⟩ ⟨hf, hA, hAl, hm0, hm1⟩
          dsimp only at hf hA hAl hm0 hm1
          simp (maxSteps := 4000000) only [go_sem]
          repeat (first | refine nx ?_ | (refine z10 fun K hK => ?_; simp (maxSteps := 4000000) only [go_sem]; refine hK _ ?_; clear hK K))
          refine z14 rfl (fun hb2 => ?_) (fun hb2 => ?_)
          · have hmp : m > 0 := by simpa using hb2
            have h101 := z1008 k hg.batches A g hAl
            rw [Kitchen.cells] at h101
            rcases z93 k A g k.batches.length with ⟨p1, p2⟩ | ⟨i, p1, p2, p3, p4, _⟩
            · rw [p1] at h101
              have hidle := z166 (k := k) (g := g) (ordK k) A m (fun x hx => by rw [hAl]; exact z41 hx) hm0 (fun j hj hgj => by
                have := p2 j (z41 hj) hgj
                have := (hA.get (j : Int)).1
                omega)
              rw [hidle] at hf
              rw [← hf, if_pos hmp] at hnx
              have hnone : takeTo k (ordK k) nd l k.allerg.length = none := z131 hnx (by omega)
              rw [hres] at hnone; cases hnone
            · rw [p1] at h101
              have hold := z718 hAl hA hm0 p1
              have hli := hA.get (i : Int)
              have hiA : i < A.length := by omega
              have gA := z21 hiA
              have hni : ¬ ((i : Int) < 0) := by omega
              have d1 : decide ((i : Int) < 0) = false := decide_eq_false (by omega)
              have w1 : IntKind.i64.wrap (getI A (i : Int) - min m (getI A (i : Int))) = getI A (i : Int) - min m (getI A (i : Int)) := z16 (by omega)
              have w2 : IntKind.i64.wrap (m - min m (getI A (i : Int))) = m - min m (getI A (i : Int)) := z16 (by omega)
              have su : (intRows A).set i [.i (getI A (i : Int) - min m (getI A (i : Int)))] = intRows (A.set i (getI A (i : Int) - min m (getI A (i : Int)))) := z49 A i _
              repeat (first | refine z12 rfl ?_ | refine z11 rfl ?_ | refine nx ?_ | (refine z10 fun K hK => ?_; simp (maxSteps := 4000000) only [go_sem, d1, hni, hiA, gA, w1, w2, su]; (repeat (first | (refine ⟨_, .lent (hf := h101) (hd := rfl) (hr := rfl), ?_⟩; simp (maxSteps := 4000000) only [go_sem, d1, hni, hiA, gA, w1, w2, su]) | (refine ⟨_, .given (hf := h101) (hd := rfl) (ha := rfl), ?_⟩; simp (maxSteps := 4000000) only [go_sem, d1, hni, hiA, gA, w1, w2, su]))); refine hK _ ?_; clear hK K))
              refine ⟨rfl, (A.set i (getI A (i : Int) - min m (getI A (i : Int))), m - min m (getI A (i : Int))), ?_, ⟨hold.trans hf, hA.set i (by omega), by rw [List.length_set, hAl], by dsimp only; omega, by dsimp only; omega⟩, by dsimp only; omega⟩
              refine z13 [] ?_ ?_ rfl rfl <;> simp [lessT, lessM, lessB, AV.less]
              all_goals first | done | rfl | trace_state
          · have hmz : m = 0 := by have : ¬ m > 0 := by simpa using hb2
                                   omega
            subst hmz
            have hz := z318 (k := k) (g := g) (ordK k) A (fun x hx => by rw [hAl]; exact z41 hx) hA
            rw [hz] at hf
            rw [← hf, if_neg (show ¬ (0 : Int) > 0 by decide)] at hnx
            repeat (first | refine nx ?_ | (refine z10 fun K hK => ?_; simp (maxSteps := 4000000) only [go_sem, hw]; refine hK _ ?_; clear hK K))
            refine ⟨rfl, (g + 1, A), ?_, ⟨hlt, hnx⟩, by dsimp only; omega⟩
            refine z13 [] ?_ ?_ rfl rfl <;> simp [lessT, lessM, lessB, AV.less]
            all_goals first | done | rfl | trace_state
      · have he : g = k.allerg.length := by (have : ¬ g < k.allerg.length := by simpa using hb); omega
        subst he
        rw [hres] at hcur; cases hcur
        repeat (first | refine nx ?_ | (refine z10 fun K hK => ?_; simp (maxSteps := 4000000) only [go_sem]; refine hK _ ?_; clear hK K))
        simp (maxSteps := 4000000) only [go_sem, retG]
  | none =>
    unfold ServeC
    refine z18 56 Try.call85 Try.func85 rfl (by decide) fun J => ?_
    simp (maxSteps := 4000000) only [go_sem, St.start, Try.ntmps85, Try.results85, Kitchen.cells]
    repeat (first | refine nx ?_ | (refine z10 fun K hK => ?_; simp (maxSteps := 4000000) only [go_sem, e1, List.nil_append, List.length_nil, Nat.zero_add]; refine hK _ ?_; clear hK K))
    refine z15 (fun (q : Nat × List Int) => [(11, .d (.i (q.1 : Int)))]) (fun q => [(15, some (.arr 3 1 (intRows q.2)))]) (fun q => q.1 ≤ k.allerg.length ∧ takeTo k (ordK k) nd l q.1 = some q.2) (fun q => k.allerg.length - q.1) (0, l) ?_ ⟨Nat.zero_le _, rfl⟩ ?_
    · simp (maxSteps := 4000000) only [go_sem]
      refine z13 [] ?_ ?_ rfl rfl <;> simp [lessT, lessM, lessB, AV.less]
      all_goals first | done | rfl | trace_state
    · rintro ⟨g, cur⟩ ⟨hgl, hcur⟩
      dsimp only at hgl hcur
      obtain ⟨a1, a2⟩ := hto g cur hcur
      simp (maxSteps := 4000000) only [go_sem]
      repeat (first | refine nx ?_ | (refine z10 fun K hK => ?_; simp (maxSteps := 4000000) only [go_sem, z19]; refine hK _ ?_; clear hK K))
      refine z14 rfl (fun hb => ?_) (fun hb => ?_)
      · have hlt : g < k.allerg.length := by simpa using hb
        have hw : IntKind.i64.wrap ((g : Int) + 1) = ((g + 1 : Nat) : Int) := by rw [z16 (by omega)]; simp
        have h26 := z1061 k hg ds cs g hlt hd hcl
        rw [← hnat g hlt] at h26
        have hnr := hnrg g hlt
        obtain ⟨N, hN⟩ : ∃ N, N = getI nd (g : Int) := ⟨_, rfl⟩
        have hnx : takeTo k (ordK k) nd l (g + 1) = if ((ordK k).foldl (takeStep k g) (cur, N)).2 > 0 then none else some ((ordK k).foldl (takeStep k g) (cur, N)).1 := by rw [takeTo, hcur, hN]; rfl
        rw [← hN] at h26 hnr
        rw [Kitchen.cells] at h26
        repeat (first | refine nx ?_ | (refine z10 fun K hK => ?_; simp (maxSteps := 4000000) only [go_sem]; (repeat (first | (refine ⟨_, .lent (hf := h26) (hd := rfl) (hr := rfl), ?_⟩; simp (maxSteps := 4000000) only [go_sem]) | (refine ⟨_, .given (hf := h26) (hd := rfl) (ha := rfl), ?_⟩; simp (maxSteps := 4000000) only [go_sem]))); refine hK _ ?_; clear hK K))
        refine z15 (fun (q : List Int × Int) => [(12, .d (.i q.2))]) (fun q => [(15, some (.arr 3 1 (intRows q.1)))]) (fun q => (ordK k).foldl (takeStep k g) q = (ordK k).foldl (takeStep k g) (cur, N) ∧ AmtOk q.1 ∧ q.1.length = k.batches.length ∧ 0 ≤ q.2 ∧ q.2 ≤ 1099511627776) (fun q => q.2.toNat) (cur, N) ?_ ⟨rfl, a1, a2.trans hl, hnr.1, hnr.2⟩ ?_
        · simp (maxSteps := 4000000) only [go_sem]
          refine z13 [] ?_ ?_ rfl rfl <;> simp [lessT, lessM, lessB, AV.less]
          all_goals first | done | rfl | trace_state
        · rintro ⟨A, m⟩ ⟨hf, hA, hAl, hm0, hm1⟩
          dsimp only at hf hA hAl hm0 hm1
          simp (maxSteps := 4000000) only [go_sem]
          repeat (first | refine nx ?_ | (refine z10 fun K hK => ?_; simp (maxSteps := 4000000) only [go_sem]; refine hK _ ?_; clear hK K))
          refine z14 rfl (fun hb2 => ?_) (fun hb2 => ?_)
          · have hmp : m > 0 := by simpa using hb2
            have h101 := z1008 k hg.batches A g hAl
            rw [Kitchen.cells] at h101
            rcases z93 k A g k.batches.length with ⟨p1, p2⟩ | ⟨i, p1, p2, p3, p4, _⟩
            · rw [p1] at h101
              have hidle := z166 (k := k) (g := g) (ordK k) A m (fun x hx => by rw [hAl]; exact z41 hx) hm0 (fun j hj hgj => by
                have := p2 j (z41 hj) hgj
                have := (hA.get (j : Int)).1
                omega)
              rw [hidle] at hf
              rw [← hf, if_pos hmp] at hnx
              have hnone : takeTo k (ordK k) nd l k.allerg.length = none := z131 hnx (by omega)
              repeat (first | refine z12 rfl ?_ | refine z11 rfl ?_ | refine nx ?_ | (refine z10 fun K hK => ?_; simp (maxSteps := 4000000) only [go_sem]; (repeat (first | (refine ⟨_, .lent (hf := h101) (hd := rfl) (hr := rfl), ?_⟩; simp (maxSteps := 4000000) only [go_sem]) | (refine ⟨_, .given (hf := h101) (hd := rfl) (ha := rfl), ?_⟩; simp (maxSteps := 4000000) only [go_sem]))); refine hK _ ?_; clear hK K))
              simp (maxSteps := 4000000) only [go_sem]
            · rw [p1] at h101
              have hold := z718 hAl hA hm0 p1
              have hli := hA.get (i : Int)
              have hiA : i < A.length := by omega
              have gA := z21 hiA
              have hni : ¬ ((i : Int) < 0) := by omega
              have d1 : decide ((i : Int) < 0) = false := decide_eq_false (by omega)
              have w1 : IntKind.i64.wrap (getI A (i : Int) - min m (getI A (i : Int))) = getI A (i : Int) - min m (getI A (i : Int)) := z16 (by omega)
              have w2 : IntKind.i64.wrap (m - min m (getI A (i : Int))) = m - min m (getI A (i : Int)) := z16 (by omega)
              have su : (intRows A).set i [.i (getI A (i : Int) - min m (getI A (i : Int)))] = intRows (A.set i (getI A (i : Int) - min m (getI A (i : Int)))) := z49 A i _
              repeat (first | refine z12 rfl ?_ | refine z11 rfl ?_ | refine nx ?_ | (refine z10 fun K hK => ?_; simp (maxSteps := 4000000) only [go_sem, d1, hni, hiA, gA, w1, w2, su]; (repeat (first | (refine ⟨_, .lent (hf := h101) (hd := rfl) (hr := rfl), ?_⟩; simp (maxSteps := 4000000) only [go_sem, d1, hni, hiA, gA, w1, w2, su]) | (refine ⟨_, .given (hf := h101) (hd := rfl) (ha := rfl), ?_⟩; simp (maxSteps := 4000000) only [go_sem, d1, hni, hiA, gA, w1, w2, su]))); refine hK _ ?_; clear hK K))
              refine ⟨rfl, (A.set i (getI A (i : Int) - min m (getI A (i : Int))), m - min m (getI A (i : Int))), ?_, ⟨hold.trans hf, hA.set i (by omega), by rw [List.length_set, hAl], by dsimp only; omega, by dsimp only; omega⟩, by dsimp only; omega⟩
              refine z13 [] ?_ ?_ rfl rfl <;> simp [lessT, lessM, lessB, AV.less]
              all_goals first | done | rfl | trace_state
          · have hmz : m = 0 := by have : ¬ m > 0 := by simpa using hb2
                                   omega
            subst hmz
            have hz := z318 (k := k) (g := g) (ordK k) A (fun x hx => by rw [hAl]; exact z41 hx) hA
            rw [hz] at hf
            rw [← hf, if_neg (show ¬ (0 : Int) > 0 by decide)] at hnx
            repeat (first | refine nx ?_ | (refine z10 fun K hK => ?_; simp (maxSteps := 4000000) only [go_sem, hw]; refine hK _ ?_; clear hK K))
            refine ⟨rfl, (g + 1, A), ?_, ⟨hlt, hnx⟩, by dsimp only; omega⟩
            refine z13 [] ?_ ?_ rfl rfl <;> simp [lessT, lessM, lessB, AV.less]
            all_goals first | done | rfl | trace_state
      · have he : g = k.allerg.length := by (have : ¬ g < k.allerg.length := by simpa using hb); omega
        subst he
        rw [hres] at hcur; cases hcur
end Go.Ab
namespace Go.Ab
open Go.RowKit Go.Proofs
set_option maxHeartbeats 16000000
set_option maxRecDepth 20000
attribute [local irreducible] WalkL Walk
def endRow (b : Bool) (d : List Diners) : List Int := d.map fun g => if b = true then g.count.hi else g.count.lo
def endsTo (k : Kitchen) (b : Bool) (i : Nat) : List (List Int) := (k.days.take i).map (endRow b)
def endsL (k : Kitchen) (b : Bool) : List (List Int) := k.days.map (endRow b)
theorem z1095 (k : Kitchen) (hg : KitWide k) (b : Bool) : Fn Try.prog 59 [.agg k.cells, .bool b] (.sl (listRows (endsL k b))) := by
  have hdy := hg.days
  cases b with
  | false =>
    have hpick : ∀ g : Diners, (if (false : Bool) = true then g.count.hi else g.count.lo) = g.count.lo := fun g => rfl
    refine z18 58 Try.call59 Try.func59 rfl (by decide) fun J => ?_
    simp (maxSteps := 4000000) only [go_sem, St.start, Try.ntmps59, Try.results59, Kitchen.cells]
    repeat (first | refine nx ?_ | (refine z10 fun K hK => ?_; simp (maxSteps := 4000000) only [go_sem]; refine hK _ ?_; clear hK K))
    refine z15 (fun (i : Nat) => [(6, .d (.i (i : Int))), (5, .own 56)]) (fun i => [(56, some (.arr 22 1 (listRows (endsTo k false i))))]) (fun i => i ≤ k.days.length) (fun i => k.days.length - i) 0 ?_ (Nat.zero_le _) ?_
    · simp (maxSteps := 4000000) only [go_sem]
      refine z13 [56] ?_ ?_ rfl rfl <;> simp [lessT, lessM, lessB, AV.less, endsTo, listRows]
    · intro i hi
      simp (maxSteps := 4000000) only [go_sem]
      repeat (first | refine nx ?_ | (refine z10 fun K hK => ?_; simp (maxSteps := 4000000) only [go_sem]; refine hK _ ?_; clear hK K))
      refine z14 rfl (fun hb => ?_) (fun hb => ?_)
      · have hlt : i < k.days.length := by simpa using hb
        have hw : IntKind.i64.wrap ((i : Int) + 1) = ((i + 1 : Nat) : Int) := by rw [z16 (by omega)]; simp
        have gd := z271 hlt
        have hni : ¬ ((i : Int) < 0) := by omega
        obtain ⟨x, hx⟩ : ∃ x, k.days[i]? = some x := ⟨_, List.getElem?_eq_getElem hlt⟩
        have e : k.days.getD i [] = x := by rw [List.getD_eq_getElem?_getD, hx]; rfl
        have hx3 := (hg.groups x (List.mem_of_getElem? hx)).1
        rw [e] at gd
        have hnx : endsTo k false (i + 1) = endsTo k false i ++ [x.map fun g => g.count.lo] := by
          rw [endsTo, endsTo, List.take_add_one, hx]
          simp [endRow]
        obtain ⟨E, hE⟩ : ∃ E, E = endsTo k false i := ⟨_, rfl⟩
        have hEl : E.length + 1 ≤ 549755813888 := by
          rw [hE, endsTo]
          simp
          omega
        rw [← hE] at hnx ⊢
        have hap : listRows E ++ [[.sl (intRows (x.map fun g => g.count.lo))]] = listRows (endsTo k false (i + 1)) := by rw [hnx]; simp [listRows]
        repeat (first | refine nx ?_ | (refine z10 fun K hK => ?_; simp (maxSteps := 4000000) only [go_sem]; refine hK _ ?_; clear hK K))
        refine z15 (fun (j : Nat) => [(8, .d (.i (j : Int))), (7, .own 52)]) (fun j => [(52, some (.arr 3 1 (intRows ((x.take j).map fun g => g.count.lo))))]) (fun j => j ≤ x.length) (fun j => x.length - j) 0 ?_ (Nat.zero_le _) ?_
        · simp (maxSteps := 4000000) only [go_sem]
          refine z13 [52] ?_ ?_ rfl rfl <;> simp [lessT, lessM, lessB, AV.less, intRows]
        · intro j hj
          simp (maxSteps := 4000000) only [go_sem]
          repeat (first | refine nx ?_ | (refine z10 fun K hK => ?_; simp (maxSteps := 4000000) only [go_sem, gd, hni]; refine hK _ ?_; clear hK K))
          refine z14 rfl (fun hb => ?_) (fun hb => ?_)
          · have hltj : j < x.length := by simpa using hb
            have hwj : IntKind.i64.wrap ((j : Int) + 1) = ((j + 1 : Nat) : Int) := by rw [z16 (by omega)]; simp
            obtain ⟨y, hy⟩ : ∃ y, x[j]? = some y := ⟨_, List.getElem?_eq_getElem hltj⟩
            have gy := z68 hy
            rw [Diners.row] at gy
            have hnj : ¬ ((j : Int) < 0) := by omega
            have hs : intRows ((x.take j).map fun g => g.count.lo) ++ [[.i y.count.lo]] = intRows ((x.take (j + 1)).map fun g => g.count.lo) := by rw [List.take_add_one, hy]; simp [intRows]
            have hsl : ((x.take j).map fun g => g.count.lo).length + 1 ≤ 549755813888 := by simp; omega
            obtain ⟨R, hR⟩ : ∃ R, R = (x.take j).map fun g => g.count.lo := ⟨_, rfl⟩
            rw [← hR] at hs hsl ⊢
            repeat (first | refine z12 rfl ?_ | refine z11 rfl ?_ | refine nx ?_ | (refine z10 fun K hK => ?_; simp (maxSteps := 4000000) only [go_sem, gd, hni, gy, hnj, hs, hsl, hwj]; refine hK _ ?_; clear hK K))
            refine ⟨rfl, j + 1, ?_, hltj, by omega⟩
            refine z13 [] ?_ ?_ rfl rfl <;> simp [lessT, lessM, lessB, AV.less]
            all_goals first | done | rfl | trace_state
          · have he : j = x.length := by (have : ¬ j < x.length := by simpa using hb); omega
            subst he
            rw [List.take_length]
            repeat refine nx ?_
            refine z20 [52] ?_
            simp (maxSteps := 4000000) only [go_sem]
            repeat (first | refine nx ?_ | (refine z10 fun K hK => ?_; simp (maxSteps := 4000000) only [go_sem, hEl, z28, hap, hw]; refine hK _ ?_; clear hK K))
            refine ⟨rfl, i + 1, ?_, hlt, by omega⟩
            refine z13 [] ?_ ?_ rfl rfl <;> simp [lessT, lessM, lessB, AV.less]
            all_goals first | done | rfl | trace_state
      · have he : i = k.days.length := by (have : ¬ i < k.days.length := by simpa using hb); omega
        subst he
        have ha : endsTo k false k.days.length = endsL k false := by rw [endsTo, List.take_length]; rfl
        rw [ha]
        repeat (first | refine nx ?_ | (refine z10 fun K hK => ?_; simp (maxSteps := 4000000) only [go_sem]; refine hK _ ?_; clear hK K))
        simp (maxSteps := 4000000) only [go_sem]
  | true =>
    have hpick : ∀ g : Diners, (if (true : Bool) = true then g.count.hi else g.count.lo) = g.count.hi := fun g => rfl
    refine z18 58 Try.call59 Try.func59 rfl (by decide) fun J => ?_
    simp (maxSteps := 4000000) only [go_sem, St.start, Try.ntmps59, Try.results59, Kitchen.cells]
    repeat (first | refine nx ?_ | (refine z10 fun K hK => ?_; simp (maxSteps := 4000000) only [go_sem]; refine hK _ ?_; clear hK K))
    refine z15 (fun (i : Nat) => [(6, .d (.i (i : Int))), (5, .own 56)]) (fun i => [(56, some (.arr 22 1 (listRows (endsTo k true i))))]) (fun i => i ≤ k.days.length) (fun i => k.days.length - i) 0 ?_ (Nat.zero_le _) ?_
    · simp (maxSteps := 4000000) only [go_sem]
      refine z13 [56] ?_ ?_ rfl rfl <;> simp [lessT, lessM, lessB, AV.less, endsTo, listRows]
    · intro i hi
      simp (maxSteps := 4000000) only [go_sem]
      repeat (first | refine nx ?_ | (refine z10 fun K hK => ?_; simp (maxSteps := 4000000) only [go_sem]; refine hK _ ?_; clear hK K))
      refine z14 rfl (fun hb => ?_) (fun hb => ?_)
      · have hlt : i < k.days.length := by simpa using hb
        have hw : IntKind.i64.wrap ((i : Int) + 1) = ((i + 1 : Nat) : Int) := by rw [z16 (by omega)]; simp
        have gd := z271 hlt
        have hni : ¬ ((i : Int) < 0) := by omega
        obtain ⟨x, hx⟩ : ∃ x, k.days[i]? = some x := ⟨_, List.getElem?_eq_getElem hlt⟩
        have e : k.days.getD i [] = x := by rw [List.getD_eq_getElem?_getD, hx]; rfl
        have hx3 := (hg.groups x (List.mem_of_getElem? hx)).1
        rw [e] at gd
        have hnx : endsTo k true (i + 1) = endsTo k true i ++ [x.map fun g => g.count.hi] := by
          rw [endsTo, endsTo, List.take_add_one, hx]
          simp [endRow]
        obtain ⟨E, hE⟩ : ∃ E, E = endsTo k true i := ⟨_, rfl⟩
        have hEl : E.length + 1 ≤ 549755813888 := by
          rw [hE, endsTo]
          simp
          omega
        rw [← hE] at hnx ⊢
        have hap : listRows E ++ [[.sl (intRows (x.map fun g => g.count.hi))]] = listRows (endsTo k true (i + 1)) := by rw [hnx]; simp [listRows]
        repeat (first | refine nx ?_ | (refine z10 fun K hK => ?_; simp (maxSteps := 4000000) only [go_sem]; refine hK _ ?_; clear hK K))
        refine z15 (fun (j : Nat) => [(8, .d (.i (j : Int))), (7, .own 39)]) (fun j => [(39, some (.arr 3 1 (intRows ((x.take j).map fun g => g.count.hi))))]) (fun j => j ≤ x.length) (fun j => x.length - j) 0 ?_ (Nat.zero_le _) ?_
        · simp (maxSteps := 4000000) only [go_sem]
          refine z13 [39] ?_ ?_ rfl rfl <;> simp [lessT, lessM, lessB, AV.less, intRows]
        · intro j hj
          simp (maxSteps := 4000000) only [go_sem]
          repeat (first | refine nx ?_ | (refine z10 fun K hK => ?_; simp (maxSteps := 4000000) only [go_sem, gd, hni]; refine hK _ ?_; clear hK K))
          refine z14 rfl (fun hb => ?_) (fun hb => ?_)
          · have hltj : j < x.length := by simpa using hb
            have hwj : IntKind.i64.wrap ((j : Int) + 1) = ((j + 1 : Nat) : Int) := by rw [z16 (by omega)]; simp
            obtain ⟨y, hy⟩ : ∃ y, x[j]? = some y := ⟨_, List.getElem?_eq_getElem hltj⟩
            have gy := z68 hy
            rw [Diners.row] at gy
            have hnj : ¬ ((j : Int) < 0) := by omega
            have hs : intRows ((x.take j).map fun g => g.count.hi) ++ [[.i y.count.hi]] = intRows ((x.take (j + 1)).map fun g => g.count.hi) := by rw [List.take_add_one, hy]; simp [intRows]
            have hsl : ((x.take j).map fun g => g.count.hi).length + 1 ≤ 549755813888 := by simp; omega
            obtain ⟨R, hR⟩ : ∃ R, R = (x.take j).map fun g => g.count.hi := ⟨_, rfl⟩
            rw [← hR] at hs hsl ⊢
            repeat (first | refine z12 rfl ?_ | refine z11 rfl ?_ | refine nx ?_ | (refine z10 fun K hK => ?_; simp (maxSteps := 4000000) only [go_sem, gd, hni, gy, hnj, hs, hsl, hwj]; refine hK _ ?_; clear hK K))
            refine ⟨rfl, j + 1, ?_, hltj, by omega⟩
            refine z13 [] ?_ ?_ rfl rfl <;> simp [lessT, lessM, lessB, AV.less]
            all_goals first | done | rfl | trace_state
          · have he : j = x.length := by (have : ¬ j < x.length := by simpa using hb); omega
            subst he
            rw [List.take_length]
            repeat refine nx ?_
            refine z20 [39] ?_
            simp (maxSteps := 4000000) only [go_sem]
            repeat (first | refine nx ?_ | (refine z10 fun K hK => ?_; simp (maxSteps := 4000000) only [go_sem, hEl, z28, hap, hw]; refine hK _ ?_; clear hK K))
            refine ⟨rfl, i + 1, ?_, hlt, by omega⟩
            refine z13 [] ?_ ?_ rfl rfl <;> simp [lessT, lessM, lessB, AV.less]
            all_goals first | done | rfl | trace_state
      · have he : i = k.days.length := by (have : ¬ i < k.days.length := by simpa using hb); omega
        subst he
        have ha : endsTo k true k.days.length = endsL k true := by rw [endsTo, List.take_length]; rfl
        rw [ha]
        repeat (first | refine nx ?_ | (refine z10 fun K hK => ?_; simp (maxSteps := 4000000) only [go_sem]; refine hK _ ?_; clear hK K))
        simp (maxSteps := 4000000) only [go_sem]
end Go.Ab
namespace Go.Ab
open Go.RowKit Go.Proofs
set_option maxHeartbeats 16000000
set_option maxRecDepth 20000
attribute [local irreducible] WalkL Walk
theorem z1096 (k : Kitchen) (hg : KitWide k) (M C : List (List Int)) (hM : shapedB (menuB k) M k.days = true) (hC : shapedB countB C k.days = true) :
    Fn Try.prog 58 [.agg k.cells, .sl (listRows M), .sl (listRows C)] (.tup [.sl (intRows (endSt k M (cntOf C)).1), .i (endSt k M (cntOf C)).2, .i ((lastD k M (cntOf C) M.length : Nat) : Int)]) := by
  have hbl := hg.batches
  have hdy := hg.days
  have hMl := z37 hM
  have hCl := z37 hC
  have hc := z886 hg hC
  obtain ⟨cnt, hcnt⟩ : ∃ cnt, cnt = cntOf C := ⟨_, rfl⟩
  rw [← hcnt] at hc ⊢
  have ha0 : (amtK k).take 0 = [] := rfl
  refine z18 83 Try.call58 Try.func58 rfl (by decide) fun J => ?_
  simp (maxSteps := 4000000) only [go_sem, St.start, Try.ntmps58, Try.results58, Kitchen.cells]
  repeat (first | refine nx ?_ | (refine z10 fun K hK => ?_; simp (maxSteps := 4000000) only [go_sem]; refine hK _ ?_; clear hK K))
  refine z15 (fun (i : Nat) => [(9, .d (.i (i : Int))), (6, .own 29)]) (fun i => [(29, some (.arr 3 1 (intRows ((amtK k).take i))))]) (fun i => i ≤ k.batches.length) (fun i => k.batches.length - i) 0 ?_ (Nat.zero_le _) ?_
  · simp (maxSteps := 4000000) only [go_sem]
    refine z13 [29] ?_ ?_ rfl rfl <;> simp [lessT, lessM, lessB, AV.less, intRows]
  · intro i hi
    simp (maxSteps := 4000000) only [go_sem]
    repeat (first | refine nx ?_ | (refine z10 fun K hK => ?_; simp (maxSteps := 4000000) only [go_sem]; refine hK _ ?_; clear hK K))
    refine z14 rfl (fun hb2 => ?_) (fun hb2 => ?_)
    · have hlt : i < k.batches.length := by simpa using hb2
      have hw : IntKind.i64.wrap ((i : Int) + 1) = ((i + 1 : Nat) : Int) := by rw [z16 (by omega)]; simp
      have gb := z147 hlt
      rw [Batch.row] at gb
      have hni : ¬ ((i : Int) < 0) := by omega
      obtain ⟨A, hA⟩ : ∃ A, A = (amtK k).take i := ⟨_, rfl⟩
      have hAl : A.length ≤ 16 := by rw [hA]; simp; omega
      have hn : A.length + 1 ≤ 549755813888 := by omega
      have e1 : (amtK k).take (i + 1) = A ++ [(batAt k i).amount] := by
        obtain ⟨x, hx⟩ : ∃ x, k.batches[i]? = some x := ⟨_, List.getElem?_eq_getElem hlt⟩
        have hx2 : (amtK k)[i]? = some x.amount := by simp [amtK, hx]
        rw [List.take_add_one, hx2, ← hA, batAt, List.getD, hx]
        rfl
      have s1 : intRows A ++ [[.i (batAt k i).amount]] = intRows ((amtK k).take (i + 1)) := by rw [e1]; simp [intRows]
      rw [← hA]
      repeat (first | refine nx ?_ | (refine z10 fun K hK => ?_; simp (maxSteps := 4000000) only [go_sem, gb, hni, hn, s1, hw]; refine hK _ ?_; clear hK K))
      refine ⟨rfl, i + 1, ?_, hlt, by omega⟩
      refine z13 [] ?_ ?_ rfl rfl <;> simp [lessT, lessM, lessB, AV.less]
      all_goals first | done | rfl | trace_state
    · have he : i = k.batches.length := by (have : ¬ i < k.batches.length := by simpa using hb2); omega
      subst he
      have e1 : (amtK k).take k.batches.length = amtK k := by rw [amtK, List.take_of_length_le (by simp)]
      rw [e1]
      repeat (first | refine nx ?_ | (refine z10 fun K hK => ?_; simp (maxSteps := 4000000) only [go_sem]; refine hK _ ?_; clear hK K))
      refine z15 (fun (q : Nat × List Int × Int) => [(10, .d (.i (q.1 : Int))), (7, .d (.i q.2.2)), (6, .own 29)]) (fun q => [(29, some (.arr 3 1 (intRows q.2.1)))]) (fun q => q.1 ≤ M.length ∧ runSt k M cnt q.1 = some q.2) (fun q => M.length - q.1) (0, amtK k, 0) ?_ ⟨Nat.zero_le _, rfl⟩ ?_
      · simp (maxSteps := 4000000) only [go_sem]
        refine z13 [] ?_ ?_ rfl rfl <;> simp [lessT, lessM, lessB, AV.less]
        all_goals first | done | rfl | trace_state
      · rintro ⟨d, l, w⟩ ⟨hd, hrun⟩
        dsimp only at hd hrun
        obtain ⟨hla, hll, hw0, hw1⟩ := z202 hg hM hc d (l, w) hd hrun
        dsimp only at hla hll hw0 hw1
        have hsome : (runSt k M cnt d).isSome = true := by rw [hrun]; rfl
        simp (maxSteps := 4000000) only [go_sem]
        repeat (first | refine nx ?_ | (refine z10 fun K hK => ?_; simp (maxSteps := 4000000) only [go_sem, z28]; refine hK _ ?_; clear hK K))
        refine z14 rfl (fun hb2 => ?_) (fun hb2 => ?_)
        · have hlt : d < M.length := by simpa using hb2
          have hw : IntKind.i64.wrap ((d : Int) + 1) = ((d + 1 : Nat) : Int) := by rw [z16 (by omega)]; simp
          have hst0 : clrTo k (d : Int) l w 0 = (l, w) := rfl
          obtain ⟨R, hR⟩ : ∃ R, R = clrTo k (d : Int) l w := ⟨_, rfl⟩
          have hRl : ∀ j, (R j).1.length = l.length := by rw [hR]; exact z32 k _ l w
          have hRo : ∀ j, AmtOk (R j).1 ∧ w ≤ (R j).2 ∧ (R j).2 ≤ w + 9000000 * j := by rw [hR]; exact z42 hla
          have hRs : ∀ j, R (j + 1) = if (batAt k j).last < (d : Int) then ((R j).1.set j 0, (R j).2 + getI (R j).1 (j : Int)) else R j := by rw [hR]; exact fun j => rfl
          rw [← hR] at hst0
          repeat (first | refine nx ?_ | (refine z10 fun K hK => ?_; simp (maxSteps := 4000000) only [go_sem]; refine hK _ ?_; clear hK K))
          refine z15 (fun (i : Nat) => [(11, .d (.i (i : Int))), (7, .d (.i (R i).2))]) (fun i => [(29, some (.arr 3 1 (intRows (R i).1)))]) (fun i => i ≤ k.batches.length) (fun i => k.batches.length - i) 0 ?_ (Nat.zero_le _) ?_
          · rw [hst0]
            simp (maxSteps := 4000000) only [go_sem]
            refine z13 [] ?_ ?_ rfl rfl <;> simp [lessT, lessM, lessB, AV.less]
            all_goals first | done | rfl | trace_state
          · intro i hi
            have hAl := hRl i
            obtain ⟨hok, hw1', hw2'⟩ := hRo i
            have hnx := hRs i
            obtain ⟨⟨A, v⟩, hAv⟩ : ∃ p, R i = p := ⟨_, rfl⟩
            rw [hAv] at hAl hok hw1' hw2' hnx ⊢
            dsimp only at hAl hok hw1' hw2' hnx ⊢
            have hAk : A.length = k.batches.length := by omega
            simp (maxSteps := 4000000) only [go_sem]
            repeat (first | refine nx ?_ | (refine z10 fun K hK => ?_; simp (maxSteps := 4000000) only [go_sem, z19, hAk]; refine hK _ ?_; clear hK K))
            refine z14 rfl (fun hb3 => ?_) (fun hb3 => ?_)
            · have hlti : i < k.batches.length := by simpa using hb3
              have hwi : IntKind.i64.wrap ((i : Int) + 1) = ((i + 1 : Nat) : Int) := by rw [z16 (by omega)]; simp
              have gb := z147 hlti
              rw [Batch.row] at gb
              have hni : ¬ ((i : Int) < 0) := by omega
              have hiA : i < A.length := by omega
              have gA := z21 hiA
              have hgA := hok.get (i : Int)
              have e1 : IntKind.i64.wrap (v + getI A (i : Int)) = v + getI A (i : Int) := z16 (by omega)
              have su : (intRows A).set i [.i 0] = intRows (A.set i 0) := z49 A i 0
              by_cases hq : (batAt k i).last < (d : Int)
              · rw [if_pos hq] at hnx
                have dd : decide ((batAt k i).last < (d : Int)) = true := decide_eq_true hq
                repeat (first | refine z12 rfl ?_ | refine z11 rfl ?_ | refine nx ?_ | (refine z10 fun K hK => ?_; simp (maxSteps := 4000000) only [go_sem, gb, hni, dd, hiA, gA, e1, su, hwi]; refine hK _ ?_; clear hK K))
                refine ⟨rfl, i + 1, ?_, hlti, by omega⟩
                rw [hnx]
                refine z13 [] ?_ ?_ rfl rfl <;> simp [lessT, lessM, lessB, AV.less]
                all_goals first | done | rfl | trace_state
              · rw [if_neg hq] at hnx
                have dd : decide ((batAt k i).last < (d : Int)) = false := decide_eq_false hq
                repeat (first | refine z12 rfl ?_ | refine z11 rfl ?_ | refine nx ?_ | (refine z10 fun K hK => ?_; simp (maxSteps := 4000000) only [go_sem, gb, hni, dd, hwi]; refine hK _ ?_; clear hK K))
                refine ⟨rfl, i + 1, ?_, hlti, by omega⟩
                rw [hnx]
                refine z13 [] ?_ ?_ rfl rfl <;> simp [lessT, lessM, lessB, AV.less]
                all_goals first | done | rfl | trace_state
            · have he : i = k.batches.length := by (have : ¬ i < k.batches.length := by simpa using hb3); omega
              subst he
              have hclr : clrD k d (l, w) = (A, v) := by rw [← hAv, hR]; rfl
              obtain ⟨r, hr⟩ : ∃ r, M[d]? = some r := ⟨_, List.getElem?_eq_getElem hlt⟩
              obtain ⟨_, hrl, hdo⟩ := z109 hg hM hc hr
              obtain ⟨c, hcd⟩ : ∃ c, C[d]? = some c := ⟨_, List.getElem?_eq_getElem (by omega)⟩
              obtain ⟨x, hx, hxo⟩ := z152 hC hcd
              have ex : k.days.getD d [] = x := by rw [List.getD, hx]; rfl
              have hcl := z86 hxo
              have ec : cnt d = fun (g : Nat) => getI c (g : Int) := by funext g; rw [hcnt, cntOf, List.getD_eq_getElem?_getD, hcd]; rfl
              have hMr : M.getD d [] = r := by rw [List.getD, hr]; rfl
              have hCr : C.getD d [] = c := by rw [List.getD, hcd]; rfl
              rw [ec] at hdo
              have h85 := z1077 k hg A r c (by omega) hok hdo (by rw [hrl, ex, hcl])
              have hnd0 : needD k M cnt d = needL k r fun (g : Nat) => getI c (g : Int) := by rw [needD, hMr, ec]
              have hstep : runSt k M cnt (d + 1) = (takeTo k (ordK k) (needL k r fun (g : Nat) => getI c (g : Int)) A k.allerg.length).map fun l => (l, v) := by rw [runSt, hrun, ← hnd0]; dsimp only; rw [hclr]
              have gm := z513 (M := M) (j := d) hlt
              have gc := z513 (M := C) (j := d) (by omega)
              rw [← hMr, ← hCr] at h85 hstep
              have hnd : ¬ ((d : Int) < 0) := by omega
              obtain ⟨Cl, hCl2⟩ : ∃ X, X = A := ⟨_, rfl⟩
              rw [← hCl2] at h85 hstep hclr ⊢
              repeat refine nx ?_
              refine z20 [29] ?_
              simp (maxSteps := 4000000) only [go_sem]
              cases htk : takeTo k (ordK k) (needL k (M.getD d []) fun (g : Nat) => getI (C.getD d []) (g : Int)) Cl k.allerg.length with
              | none =>
                rw [htk] at h85 hstep
                simp only [ServeC] at h85
                rw [Kitchen.cells] at h85
                have hnone : runSt k M cnt (d + 1) = none := hstep
                have eD : lastD k M cnt M.length = d := z240 hsome hnone (by omega)
                have eE : endSt k M cnt = (Cl, v) := by
                  rw [endSt, eD, hrun, if_pos hlt]
                  exact hclr
                rw [eD, eE]
                refine z85 (fun b => [(60, bif b 0 then .undef else .agg [.d (.sl (intRows k.allerg)), .d (.sl (batRows k.batches)), .d (.sl (dishRows k.dishes)), .d (.sl (dayRows k.days))]), (61, bif b 1 then .undef else .d (.sl (intRows Cl))), (62, bif b 2 then .undef else .d (.sl (listRows M))), (63, bif b 3 then .undef else .d (.i (d : Int))),
                    (64, bif b 4 then .undef else .d (.ptr [.sl (intRows (M.getD d []))] 0)), (65, bif b 5 then .undef else .d (.sl (intRows (M.getD d [])))), (66, bif b 6 then .undef else .d (.sl (listRows C))), (67, bif b 7 then .undef else .d (.i (d : Int))), (68, bif b 8 then .undef else .d (.ptr [.sl (intRows (C.getD d []))] 0)), (69, bif b 9 then .undef else .d (.sl (intRows (C.getD d [])))), (70, bif b 10 then .undef else .d (.tup [.sl (intRows Cl), .bool false])), (59, bif b 11 then .undef else .d (.tup [.sl (intRows Cl), .bool false])), (71, bif b 12 then .undef else .d (.sl (intRows Cl))), (72, bif b 13 then .undef else .d (.bool false)), (12, bif b 14 then .undef else .d (.sl (intRows Cl))), (13, bif b 15 then .undef else .d (.bool false))])
                  (fun b => []) 16 (by kernel_rfl) (by kernel_rfl) (by kernel_rfl) (by decide) ?_ ?_ (Weak.refl _) ?_
                · simp (maxSteps := 4000000) only [go_sem]
                · refine ⟨?_, ?_, ?_, ?_, ?_, ?_, ?_, ?_, ?_, ?_, ?_, ?_, ?_, ?_, ?_, ?_, trivial⟩
                  all_goals
                    intro b hbm hdm _
                    simp only [depsM, Region.binds, true_and, and_true, Nat.zero_add, Nat.reduceAdd, reduceCtorEq, forall_const] at hdm
                    refine ⟨rfl, rfl, ?_⟩
                    simp (maxSteps := 4000000) only [go_sem, hbm, hdm, gm, gc, hnd]
                  · refine ⟨_, .given (hf := h85) (hd := rfl) (ha := rfl), ?_⟩
                    simp (maxSteps := 4000000) only [go_sem, hbm, hdm]
                · intro K hK
                  simp (maxSteps := 4000000) only [go_sem]
                  refine hK _ _ ?_
                  clear hK K
                  repeat (first | refine z12 rfl ?_ | refine z11 rfl ?_ | refine nx ?_ | (refine z10 fun K hK => ?_; simp (maxSteps := 4000000) only [go_sem]; refine hK _ ?_; clear hK K))
                  simp (maxSteps := 4000000) only [go_sem]
              | some c' =>
                rw [htk] at h85 hstep
                simp only [ServeC] at h85
                rw [Kitchen.cells] at h85
                have hsm : runSt k M cnt (d + 1) = some (c', v) := hstep
                refine z85 (fun b => [(60, bif b 0 then .undef else .agg [.d (.sl (intRows k.allerg)), .d (.sl (batRows k.batches)), .d (.sl (dishRows k.dishes)), .d (.sl (dayRows k.days))]), (61, bif b 1 then .undef else .d (.sl (intRows Cl))), (62, bif b 2 then .undef else .d (.sl (listRows M))), (63, bif b 3 then .undef else .d (.i (d : Int))),
                    (64, bif b 4 then .undef else .d (.ptr [.sl (intRows (M.getD d []))] 0)), (65, bif b 5 then .undef else .d (.sl (intRows (M.getD d [])))), (66, bif b 6 then .undef else .d (.sl (listRows C))), (67, bif b 7 then .undef else .d (.i (d : Int))), (68, bif b 8 then .undef else .d (.ptr [.sl (intRows (C.getD d []))] 0)), (69, bif b 9 then .undef else .d (.sl (intRows (C.getD d [])))), (70, bif b 10 then .undef else .tup [.own 21, .d (.bool true)]), (59, bif b 11 then .undef else .tup [.own 21, .d (.bool true)]), (71, bif b 12 then .undef else .own 21), (72, bif b 13 then .undef else .d (.bool true)), (12, bif b 14 then .undef else .own 21), (13, bif b 15 then .undef else .d (.bool true))])
                  (fun b => [(21, bif b 10 then none else some (.arr 3 1 (intRows c')))]) 16 (by kernel_rfl) (by kernel_rfl) (by kernel_rfl) (by decide) ?_ ?_ (Weak.refl _) ?_
                · simp (maxSteps := 4000000) only [go_sem]
                · refine ⟨?_, ?_, ?_, ?_, ?_, ?_, ?_, ?_, ?_, ?_, ?_, ?_, ?_, ?_, ?_, ?_, trivial⟩
                  all_goals
                    intro b hbm hdm _
                    simp only [depsM, Region.binds, true_and, and_true, Nat.zero_add, Nat.reduceAdd, reduceCtorEq, forall_const] at hdm
                    refine ⟨rfl, rfl, ?_⟩
                    simp (maxSteps := 4000000) only [go_sem, hbm, hdm, gm, gc, hnd]
                  · refine ⟨_, .made (news := [21]) (hf := h85) (hd := rfl) (hn := by decide) (hl := rfl) (hnew := rfl) (hx := rfl), ?_⟩
                    simp (maxSteps := 4000000) only [go_sem, List.map_cons, List.map_nil, hbm, hdm]
                · intro K hK
                  simp (maxSteps := 4000000) only [go_sem]
                  refine hK _ _ ?_
                  clear hK K
                  repeat refine nx ?_
                  refine z10 fun K hK => ?_
                  simp (maxSteps := 4000000) only [go_sem]
                  refine hK _ ?_
                  clear hK K
                  refine z11 rfl ?_
                  refine z253 21 29 ?_
                  simp (maxSteps := 4000000) only [go_sem]
                  repeat (first | refine nx ?_ | (refine z10 fun K hK => ?_; simp (maxSteps := 4000000) only [go_sem, hw]; refine hK _ ?_; clear hK K))
                  refine ⟨rfl, (d + 1, c', v), ?_, ⟨hlt, hsm⟩, by dsimp only; omega⟩
                  refine z13 [] ?_ ?_ rfl rfl <;> simp [lessT, lessM, lessB, AV.less]
                  all_goals first | done | rfl | trace_state
        · have he : d = M.length := by (have : ¬ d < M.length := by simpa using hb2); omega
          subst he
          have eD : lastD k M cnt M.length = M.length := z129 hsome
          have eE : endSt k M cnt = (l, w) := by
            rw [endSt, eD, hrun, if_neg (Nat.lt_irrefl _)]
            rfl
          rw [eD, eE]
          repeat (first | refine nx ?_ | (refine z10 fun K hK => ?_; simp (maxSteps := 4000000) only [go_sem, z28]; refine hK _ ?_; clear hK K))
          simp (maxSteps := 4000000) only [go_sem]
end Go.Ab
namespace Go.Ab
open Go.RowKit Go.Proofs
set_option maxHeartbeats 16000000
set_option maxRecDepth 20000
attribute [local irreducible] WalkL Walk
def pickC (k : Kitchen) (b : Bool) (d g : Nat) : Int := if b = true then (dinAt k d g).count.hi else (dinAt k d g).count.lo
theorem z990 {k : Kitchen} {b : Bool} {d g : Nat} (hd : d < k.days.length) (hg : g < (k.days.getD d []).length) : cntOf (endsL k b) d g = pickC k b d g := by
  obtain ⟨x, hx⟩ : ∃ x, k.days[d]? = some x := ⟨_, List.getElem?_eq_getElem hd⟩
  have e : k.days.getD d [] = x := by rw [List.getD_eq_getElem?_getD, hx]; rfl
  rw [e] at hg
  obtain ⟨y, hy⟩ : ∃ y, x[g]? = some y := ⟨_, List.getElem?_eq_getElem hg⟩
  have e2 : dinAt k d g = y := by rw [dinAt, e, List.getD_eq_getElem?_getD, hy]; rfl
  rw [cntOf, endsL, List.getD_eq_getElem?_getD, List.getElem?_map, hx, Option.map_some, Option.getD_some, z139, endRow, List.getD_eq_getElem?_getD, List.getElem?_map, hy, pickC, e2]
  rfl
theorem z324 {k : Kitchen} (hg : KitWide k) (b : Bool) : shapedB countB (endsL k b) k.days = true := by
  refine z506 (by simp [endsL]) fun i r x h1 h2 => ?_
  rw [endsL, List.getElem?_map, h2] at h1
  cases h1
  refine z705 (by simp [endRow]) fun g n y h3 h4 => ?_
  rw [endRow, List.getElem?_map, h4] at h3
  cases h3
  have := ((hg.groups x (List.mem_of_getElem? h2)).2 y (List.mem_of_getElem? h4)).2
  refine z44.2 ?_
  cases b <;> dsimp only [Bool.false_eq_true, if_true, if_false] <;> simp only [if_true, if_false, Bool.false_eq_true] <;> omega
theorem z301 {k : Kitchen} {ds : List Int} {c c' : Nat → Int} {good : Nat} : ∀ n, (∀ g, g < n → c g = c' g) → needG k ds c good n = needG k ds c' good n
  | 0, _ => rfl
  | n + 1, h => by rw [needG, needG, z301 n fun g hg => h g (by omega), h n (by omega)]
theorem z676 {k : Kitchen} {M : List (List Int)} {c c' : Nat → Nat → Int} {d : Nat} (h : ∀ g, g < (M.getD d []).length → c d g = c' d g) : needD k M c d = needD k M c' d := by
  rw [needD, needD, needL, needL]
  exact List.map_congr_left fun x _ => z301 _ h
theorem z183 {k : Kitchen} {M : List (List Int)} {c c' : Nat → Nat → Int} : ∀ d, (∀ e g, e < d → g < (M.getD e []).length → c e g = c' e g) → runSt k M c d = runSt k M c' d
  | 0, _ => rfl
  | d + 1, h => by rw [runSt, runSt, z183 d fun e g he => h e g (by omega), z676 fun g hg => h d g (by omega) hg]
theorem z308 {k : Kitchen} {M : List (List Int)} {c c' : Nat → Nat → Int} : ∀ d, (∀ e g, e < d → g < (M.getD e []).length → c e g = c' e g) → lastD k M c d = lastD k M c' d
  | 0, _ => rfl
  | d + 1, h => by rw [lastD, lastD, z183 (d + 1) h, z308 d fun e g he => h e g (by omega)]
theorem z576 {k : Kitchen} (hg : KitWide k) {M : List (List Int)} (hM : shapedB (menuB k) M k.days = true) (b : Bool) :
    lastD k M (cntOf (endsL k b)) M.length = lastD k M (pickC k b) M.length ∧ endSt k M (cntOf (endsL k b)) = endSt k M (pickC k b) := by
  have key : ∀ e g, e < M.length → g < (M.getD e []).length → cntOf (endsL k b) e g = pickC k b e g := fun e g he hgl => by
    obtain ⟨r, hr⟩ : ∃ r, M[e]? = some r := ⟨_, List.getElem?_eq_getElem he⟩
    obtain ⟨h1, h2, _⟩ := z109 hg hM (z886 hg (z324 hg b)) hr
    rw [List.getD_eq_getElem?_getD, hr, Option.getD_some, h2] at hgl
    exact z990 h1 hgl
  have hl := z308 (k := k) M.length key
  refine ⟨hl, ?_⟩
  rw [endSt, endSt, hl, z183 (k := k) _ fun e g he => key e g (by have := z277 k M (pickC k b) M.length; omega)]
theorem z972 (k : Kitchen) (M : List (List Int)) : lastD k M (pickC k true) M.length = mostK k M := rfl
end Go.Ab
namespace Go.Ab
open Go.RowKit Go.Proofs
set_option maxHeartbeats 16000000
set_option maxRecDepth 20000
attribute [local irreducible] WalkL Walk
theorem z1104 (k : Kitchen) (hg : KitWide k) (M : List (List Int)) (hM : shapedB (menuB k) M k.days = true) :
    Fn Try.prog 29 [.agg k.cells, .sl (listRows M)] (.tup [.bool ((mostK k M : Int) == (k.days.length : Int)), .i (endSt k M (pickC k true)).2]) := by
  have h59 := z1095 k hg true
  have h58 := z1096 k hg M (endsL k true) hM (z324 hg true)
  rw [(z576 hg hM true).1, (z576 hg hM true).2, z972] at h58
  obtain ⟨⟨E, W⟩, hE⟩ : ∃ E, E = endSt k M (pickC k true) := ⟨_, rfl⟩
  rw [← hE] at h58 ⊢
  dsimp only at h58 ⊢
  obtain ⟨m, hm⟩ : ∃ m, m = mostK k M := ⟨_, rfl⟩
  rw [← hm] at h58 ⊢
  rw [Kitchen.cells] at h58 h59
  refine z18 24 Try.call29 Try.func29 rfl (by decide) fun J => ?_
  simp (maxSteps := 4000000) only [go_sem, St.start, Try.ntmps29, Try.results29, Kitchen.cells]
  repeat (first | refine nx ?_ | (refine z10 fun K hK => ?_; simp (maxSteps := 4000000) only [go_sem]; refine hK _ ?_; clear hK K))
  refine z17 (by kernel_rfl) (by kernel_rfl) fun K hK => ?_
  simp (maxSteps := 4000000) only [go_sem]
  refine ⟨_, .fn (hf := h59) (hd := rfl) (hr := .inr rfl), ?_⟩
  simp (maxSteps := 4000000) only [go_sem]
  refine ⟨_, .fn (hf := h58) (hd := rfl) (hr := .inr rfl), ?_⟩
  simp (maxSteps := 4000000) only [go_sem]
  refine ⟨by kernel_rfl, hK _ ?_⟩
  clear hK K
  repeat (first | refine nx ?_ | (refine z10 fun K hK => ?_; simp (maxSteps := 4000000) only [go_sem]; refine hK _ ?_; clear hK K))
  simp (maxSteps := 4000000) only [go_sem]
end Go.Ab
namespace Go.Ab
open Go.RowKit Go.Proofs
def erow : List Int → List Int → Option Bool
  | x :: a, y :: b => if x = y then erow a b else some (decide (x < y))
  | _, _ => none
def earlierB : List (List Int) → List (List Int) → Bool
  | r :: M, p :: P => (erow r p).getD (earlierB M P)
  | _, _ => false
def ERow (a b : List Int) : Prop := erow a b = some true
def runF (k : Kitchen) : Nat → List Int → List (List Int) → Option Int
  | _, _, [] => some 0
  | d, l, m :: ms => match takeD k d m (clr0 k d l).1 with
    | none => none
    | some l' => (runF k (d + 1) l' ms).map ((clr0 k d l).2 + ·)
theorem z930 {k : Kitchen} {M : List (List Int)} (hM : M.length = k.days.length) : mostK k M = k.days.length ↔ (runSt k M (hiC k) M.length).isSome = true := by
  constructor
  · intro h
    cases hr : runSt k M (hiC k) M.length with
    | some _ => rfl
    | none =>
      have h2 : lastD k M (hiC k) M.length = M.length := h.trans hM.symm
      cases hl : M.length with
      | zero => rw [hl] at hr; cases hr
      | succ d =>
        rw [hl] at hr h2
        rw [lastD, hr] at h2
        have := z277 k M (hiC k) d
        simp only [Option.isSome_none, Bool.false_eq_true, if_false] at h2
        omega
  · intro h
    rw [← hM]
    exact z129 h
end Go.Ab
namespace Go.Ab
open Go.RowKit Go.Proofs
theorem z371 (f : Nat → Int) : ∀ n, sumN f (n + 1) = f 0 + sumN (fun i => f (i + 1)) n
  | 0 => by simp [sumN]
  | n + 1 => by rw [sumN, z371 f n, sumN]; omega
def sB (F : Batch → Int) : List Batch → Int
  | [] => 0
  | b :: l => F b + sB F l
theorem z960 (F : Batch → Int) : ∀ l : List Batch, sumN (fun i => F (l.getD i noBatch)) l.length = sB F l
  | [] => rfl
  | b :: l => by
    rw [List.length_cons, z371, sB, ← z960 F l]
    rfl
theorem z508 (F : Batch → Int) : ∀ a b, sB F (a ++ b) = sB F a + sB F b
  | [], b => by simp [sB]
  | x :: a, b => by rw [List.cons_append, sB, sB, z508 F a b]; omega
def fB (g : Nat) (t : Int) (b : Batch) : Int := if b.good = (g : Int) ∧ t ≤ b.last then b.amount else 0
theorem z1011 (k : Kitchen) (g : Nat) (t : Int) : vK k g t (amtK k) = sB (fB g t) k.batches := by
  rw [vK, vO, z224, ← z960]
  refine z225 _ fun i hi => ?_
  rw [z1027 hi]
  rfl
theorem z859 (k : Kitchen) (B : List Batch) (ds : List Int) (cnt : Nat → Int) (good : Nat) : ∀ n, needG { k with batches := B } ds cnt good n = needG k ds cnt good n
  | 0 => rfl
  | n + 1 => by
    rw [needG, needG, z859 k B ds cnt good n]
    rfl
theorem z978 (k : Kitchen) (B : List Batch) (M : List (List Int)) (cnt : Nat → Nat → Int) (d : Nat) : needD { k with batches := B } M cnt d = needD k M cnt d := by
  rw [needD, needD, needL, needL]
  exact List.map_congr_left fun x _ => z859 k B _ _ _ _
theorem z549 {k : Kitchen} {B : List Batch} (hg : KitWide k) (hg2 : KitWide { k with batches := B }) {M : List (List Int)} (hM : shapedB (menuB k) M k.days = true) {cnt : Nat → Nat → Int} (hc : CntOk k cnt)
    (hv : ∀ g t, sB (fB g t) k.batches ≤ sB (fB g t) B) : lastD k M cnt M.length ≤ lastD { k with batches := B } M cnt M.length := by
  have hc2 : CntOk { k with batches := B } cnt := ⟨hc.rng⟩
  have hle := z277 k M cnt M.length
  rw [z937 hle, z47 hg2 hM hc2 hle]
  have h := (z47 hg hM hc hle).1 (z241 k M cnt M.length)
  intro g hgl t h1 h2
  have := h g hgl t h1 h2
  rw [z1011] at this ⊢
  simp only [z978]
  exact Int.le_trans this (hv g _)
theorem z542 {k : Kitchen} {B : List Batch} (hg : KitWide k) (hg2 : KitWide { k with batches := B }) {M : List (List Int)} (hM : shapedB (menuB k) M k.days = true)
    (hv : ∀ g t, sB (fB g t) k.batches ≤ sB (fB g t) B) : mostK k M ≤ mostK { k with batches := B } M ∧ leastK k M ≤ leastK { k with batches := B } M :=
  ⟨z549 hg hg2 hM (z684 hg) hv, z549 hg hg2 hM (z1017 hg) hv⟩
end Go.Ab
