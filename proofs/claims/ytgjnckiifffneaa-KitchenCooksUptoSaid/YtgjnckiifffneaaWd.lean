/- A walk engine over abstract states, and the contracts of the functions that the statement reaches: part 4. -/
import Derived.Test.YtgjnckiifffneaaWc
set_option linter.unusedVariables false
set_option linter.unusedSimpArgs false
set_option linter.unnecessarySimpa false
/- More on functions that hand on elements: drawn regions told by what is still to come, arrays handed down with their room, functions that name themselves; the simp set. -/
namespace Go.Ab
open Go.RowKit
def viaVh (len : Nat) : AV → AV
  | .own n => .vh n len
  | .vh n l => .vh n l
  | _ => .undef
def St.asVh (n : Nat) (st : St) : St := match (st.m[n]? : Option (Option Blk)) with
  | some (some (.arr e z rows)) => { t := st.t.map (AV.sub n (viaVh rows.length)), m := (subMem n (viaVh rows.length) st.m).set n (some (.arrP e z rows)) }
  | _ => st
def St.fewer (n k : Nat) (st : St) : St := match (st.m[n]? : Option (Option Blk)) with
  | some (some (.arrP e z rows)) => { t := st.t, m := st.m.set n (some (.arrP e z (rows.take k))) }
  | _ => st
def vcOf (len : Nat) : AV → AV
  | .vh n l => if l = len then .vc n l else .undef
  | .vc n l => .vc n l
  | _ => .undef
def St.vRoom (n : Nat) (st : St) : St := match (st.m[n]? : Option (Option Blk)) with
  | some (some (.arrP e z rows)) => { t := st.t.map (AV.sub n (vcOf rows.length)), m := (subMem n (vcOf rows.length) st.m).set n (some (.arrP e z rows)) }
  | _ => st
def St.vFull (n : Nat) (st : St) : St := match (st.m[n]? : Option (Option Blk)) with
  | some (some (.arrP e z rows)) => { t := st.t, m := st.m.set n (some (.arr e z rows)) }
  | _ => st
section
variable {P : Program} {base : Own} {out : Own} {st st' : St} {μ : Pl} {tmps : Array Value} {w w' : World} {J : Env} {k : Option Nat} {B : Nat}
theorem z193 (n : Nat) (st : St) (hne : ∀ e z, st.m[n]? ≠ some (some (.arr e z []))) : Weak st (st.asVh n) := by
  intro P base out μ tmps w h
  unfold St.asVh
  split
  · rename_i e z rows hn
    have hrn : rows ≠ [] := fun e' => hne e z (by rw [hn, e'])
    rcases h.mem.arr hn with ⟨_, h0⟩ | ⟨b, cap, cs, hμ, hh, hle, hcm, hcs, hz, hd⟩
    · exact absurd h0 hrn
    have hlt : n < st.m.length := (List.getElem?_eq_some_iff.1 hn).1
    have hsub := z918 (out := out) (l' := cap) (c' := cap) hμ
    have hg : Goes w (ownOf out μ) w (ownOf out (μ.upd n (some (.at b z cap cap)))) := fun q o v h1 h2 => ⟨fun hc => h1 (hsub q hc), h2⟩
    refine ⟨μ.upd n (some (.at b z cap cap)), ?_, hsub⟩
    refine h.turn (n := n) (f := viaVh rows.length) hg (fun k hk => Pl.upd_ne μ _ hk) (fun y u hy hr => ?_) (fun _ _ _ _ _ _ _ => rfl) (Nat.le_refl _)
      (fun k hk => by rw [List.getElem?_set_ne (Ne.symm hk), z36]) (fun b' hb' => ?_) (fun _ => ⟨.arrP e z rows, by rw [List.getElem?_set_self (by rw [z94]; exact hlt)]⟩) (fun b' z' l c hb' => ?_)
    · cases y <;> simp only [AV.name?, Option.some.injEq, reduceCtorEq] at hy <;> subst hy <;> simp only [viaVh] <;> try exact .undef _
      · rcases z60 hr with ⟨h1, _⟩ | ⟨b2, z2, l2, c2, h1, rfl⟩
        · rw [hμ] at h1; cases h1
        · rw [hμ] at h1; cases h1
          exact .vh _ (Pl.upd_same μ _ _) hle
      · cases hr with
        | vh _ h1 hle2 =>
          rw [hμ] at h1; cases h1
          exact .vh _ (Pl.upd_same μ _ _) hle2
    · rw [List.getElem?_set_self (by rw [z94]; exact hlt)] at hb'
      cases hb'
      exact ⟨b, cap, cs, Pl.upd_same μ n _, hh, hle, hcm, hcs, hz, fun i r j d h1 h2 => let ⟨v, p, q, r⟩ := hd i r j d h1 h2; ⟨v, p, q, r.goes hg⟩⟩
    · rw [Pl.upd_same] at hb'; cases hb'
      exact ⟨h.mem.base n b _ _ _ hμ, fun k z' l' c' hk hc => hk (h.mem.inj k n b _ _ _ _ _ _ hc hμ)⟩
  · exact ⟨μ, h, fun _ hb => hb⟩
theorem z248 {m : List (Option Blk)} {n : Nat} {b b' : Blk} (hM : MemRel base out w μ m) (hn : m[n]? = some (some b)) (hb : BlkRel w (ownOf out μ) μ n b') : MemRel base out w μ (m.set n (some b')) := by
  have hlt : n < m.length := (List.getElem?_eq_some_iff.1 hn).1
  refine ⟨fun k bk hk => ?_, fun k hk => ?_, hM.inj, hM.base⟩
  · by_cases hkn : n = k
    · subst hkn
      rw [List.getElem?_set_self hlt] at hk
      cases hk
      exact hb
    · rw [List.getElem?_set_ne hkn] at hk
      exact hM.blk k bk hk
  · by_cases hkn : n = k
    · subst hkn
      exact ⟨b', List.getElem?_set_self hlt⟩
    · rw [List.getElem?_set_ne hkn]
      exact hM.dom k hk
theorem z353 (n k : Nat) (st : St) : Weak st (st.fewer n k) := by
  intro P base out μ tmps w h
  unfold St.fewer
  split
  · rename_i e z rows hn
    obtain ⟨b, cap, cs, hμ, hh, hle, hcm, hcs, hz, hd⟩ := h.mem.arrP hn
    refine ⟨μ, ⟨h.size, h.tmp, z248 h.mem hn ⟨b, cap, cs, hμ, hh, by rw [List.length_take]; omega, hcm, hcs, fun r hr => hz r (List.mem_of_mem_take hr), fun i r j d h1 h2 => ?_⟩, h.hid, h.out, h.le⟩, fun _ hb => hb⟩
    rw [List.getElem?_take] at h1
    split at h1
    · exact hd i r j d h1 h2
    · cases h1
  · exact ⟨μ, h, fun _ hb => hb⟩
theorem z859 (h : StRel P base out st μ tmps w) {n : Nat} {e : TypeId} {z : Nat} {rows : List (List DV)} (hn : st.m[n]? = some (some (.arrP e z rows))) :
    StRel P base out (st.vFull n) μ tmps w ∨ StRel P base out (st.vRoom n) μ tmps w := by
  obtain ⟨b, cap, cs, hμ, hh, hle, hcm, hcs, hz, hd⟩ := h.mem.arrP hn
  by_cases hc : rows.length = cap
  · left
    unfold St.vFull
    simp only [hn]
    exact ⟨h.size, h.tmp, z248 h.mem hn (.inr ⟨b, cap, cs, by rw [hc]; exact hμ, hh, hle, hcm, hcs, hz, hd⟩), h.hid, h.out, h.le⟩
  · right
    have hlt : n < st.m.length := (List.getElem?_eq_some_iff.1 hn).1
    unfold St.vRoom
    simp only [hn]
    have hg := Goes.refl w (ownOf out μ)
    refine h.turn (n := n) (f := vcOf rows.length) hg (fun _ _ => rfl) (fun y u hy hr => ?_) (fun _ _ _ _ _ _ _ => rfl) (Nat.le_refl _)
      (fun k hk => by rw [List.getElem?_set_ne (Ne.symm hk), z36]) (fun b' hb' => ?_) (fun _ => ⟨.arrP e z rows, by rw [List.getElem?_set_self (by rw [z94]; exact hlt)]⟩) (fun b' z' l c hb' => ?_)
    · cases y <;> simp only [AV.name?, Option.some.injEq, reduceCtorEq] at hy <;> subst hy <;> simp only [vcOf] <;> try exact .undef _
      · split
        · rename_i hl
          subst hl
          cases hr with
          | vh _ h1 hle2 =>
            rw [hμ] at h1; cases h1
            exact .vc _ hμ (by omega)
        · exact .undef _
      · exact hr
    · rw [List.getElem?_set_self (by rw [z94]; exact hlt)] at hb'
      cases hb'
      exact ⟨b, cap, cs, hμ, hh, hle, hcm, hcs, hz, hd⟩
    · exact ⟨h.mem.base n b' _ _ _ hb', fun k z' l' c' hk hc => hk (h.mem.inj k n b' _ _ _ _ _ _ hc hb')⟩
theorem z566 {rd : Option Nat} {n : Nat} {c : Code} {cs : List Code} {Q : Exit → Option Nat → St → Prop} (a : Nat) {e : TypeId} {z : Nat} {rows : List (List DV)} (hn : st.m[a]? = some (some (.arrP e z rows)))
    (h1 : WalkL P rd n J (c :: cs) k (st.vFull a) Q) (h2 : WalkL P rd n J (c :: cs) k (st.vRoom a) Q) : WalkL P rd n J (c :: cs) k st Q := fun B base out μ tmps w ds hO hA hJ hM => by
  rcases z859 hA hn with hA' | hA'
  · exact h1 B base out μ tmps w ds hO hA' hJ hM
  · exact h2 B base out μ tmps w ds hO hA' hJ hM
def cycD (f : FuncId) (caps : List (Option DV)) : Nat → DV
  | 0 => .any
  | i + 1 => .ptr [.fn f (caps.map fun c => c.getD (cycD f caps i))] 0
def cycCaps (n : Nat) : List AV → Option (List (Option DV))
  | [] => some []
  | .d d :: l => (cycCaps n l).map (some d :: ·)
  | .box k o :: l => if k = n ∧ o = 0 then (cycCaps n l).map (none :: ·) else none
  | _ :: _ => none
theorem z191 {n : Nat} : ∀ {xs : List AV} {caps : List (Option DV)}, cycCaps n xs = some caps → xs.length = caps.length ∧ ∀ (i : Nat) c, caps[i]? = some c → (c = none ∧ xs[i]? = some (.box n 0)) ∨ ∃ d, c = some d ∧ xs[i]? = some (.d d)
  | [], caps, h => by cases h; exact ⟨rfl, fun i c h => by simp at h⟩
  | .d d :: l, caps, h => by
    rw [cycCaps, Option.map_eq_some_iff] at h
    obtain ⟨l', hl, rfl⟩ := h
    obtain ⟨h1, h2⟩ := z191 hl
    refine ⟨by simp [h1], fun i c hi => ?_⟩
    cases i with
    | zero => simp at hi; subst hi; exact .inr ⟨d, rfl, rfl⟩
    | succ i => simpa using h2 i c (by simpa using hi)
  | .box k o :: l, caps, h => by
    rw [cycCaps] at h
    split at h
    · rename_i hk
      obtain ⟨rfl, rfl⟩ := hk
      rw [Option.map_eq_some_iff] at h
      obtain ⟨l', hl, rfl⟩ := h
      obtain ⟨h1, h2⟩ := z191 hl
      refine ⟨by simp [h1], fun i c hi => ?_⟩
      cases i with
      | zero => simp at hi; subst hi; exact .inl ⟨rfl, rfl⟩
      | succ i => simpa using h2 i c (by simpa using hi)
    · cases h
  | .undef :: _, _, h | .void :: _, _, h | .nil :: _, _, h | .elem .. :: _, _, h | .own _ :: _, _, h | .view .. :: _, _, h | .bsl .. :: _, _, h | .mp _ :: _, _, h | .vh .. :: _, _, h | .vc .. :: _, _, h | .dfull _ :: _, _, h | .agg _ :: _, _, h
  | .tup _ :: _, _, h | .fn .. :: _, _, h => by cases h
def cycLeaf (d : DV) : AV → AV
  | .box _ 0 => .d d
  | _ => .undef
def St.cyc (n depth : Nat) (st : St) : St := match (st.m[n]? : Option (Option Blk)) with
  | some (some (.box [.fn f xs])) => match cycCaps n xs with
    | some caps => { t := st.t.map (AV.sub n (cycLeaf (cycD f caps depth))), m := subMem n (cycLeaf (cycD f caps depth)) (st.m.set n none) }
    | none => st
  | _ => st
theorem z854 (n depth : Nat) (st : St) : Weak st (st.cyc n depth) := by
  intro P base out μ tmps w h
  unfold St.cyc
  split
  · rename_i f xs hn
    split
    · rename_i caps hcaps
      obtain ⟨b, cs, ty, hμ, hh, hle, hcell⟩ := h.mem.box hn
      have hlt : n < st.m.length := (List.getElem?_eq_some_iff.1 hn).1
      have hown : ∀ k, ownOf out (μ.upd n none) k → ownOf out μ k := by
        rintro k (hk | ⟨a, z, l, c, ha⟩)
        · exact .inl hk
        · by_cases han : a = n
          · subst han; rw [Pl.upd_same] at ha; cases ha
          · rw [Pl.upd_ne μ _ han] at ha; exact .inr ⟨a, z, l, c, ha⟩
      have hnb : ¬ ownOf out (μ.upd n none) b := by
        rintro (hc | ⟨a, z, l, c, ha⟩)
        · exact (h.mem.base n b _ _ _ hμ).2.2 hc
        · by_cases han : a = n
          · subst han; rw [Pl.upd_same] at ha; cases ha
          · rw [Pl.upd_ne μ _ han] at ha; exact han (h.mem.inj a n b _ _ _ _ _ _ ha hμ)
      have hg : Goes w (ownOf out μ) w (ownOf out (μ.upd n none)) := fun k o v h1 h2 => ⟨fun hc => h1 (hown k hc), h2⟩
      have hcs1 : 0 < cs.size := hle
      obtain ⟨v0, hv0⟩ : ∃ v, cs[0]? = some v := ⟨cs[0], by simp [hcs1]⟩
      obtain ⟨hone, hrel⟩ := hcell 0 (.fn f xs) v0 rfl hv0
      obtain ⟨vs, rfl, hvl, hvd⟩ := z686 hrel
      obtain ⟨hcl, hcg⟩ := z191 hcaps
      have hcell0 : w.cell? ⟨b, 0, none⟩ = some (.func (.func f) #[] vs) := by rw [z55 hh]; exact hv0
      have key : ∀ i, DRel w (ownOf out (μ.upd n none)) (cycD f caps i) (.pointer (some ⟨b, 0, none⟩)) := by
        intro i
        induction i with
        | zero => exact .any _ rfl
        | succ i ih =>
          have hfn : DRel w (ownOf out (μ.upd n none)) (.fn f (caps.map fun c => c.getD (cycD f caps i))) (.func (.func f) #[] vs) := by
            refine .fn f _ vs (by rw [List.length_map, ← hcl, hvl]) (fun j d u h1 h2 => ?_)
            simp only [List.getElem?_map, Option.map_eq_some_iff] at h1
            obtain ⟨c, h1, rfl⟩ := h1
            rcases hcg j c h1 with ⟨rfl, h3⟩ | ⟨d, rfl, h3⟩
            · obtain ⟨b2, z2, l2, c2, h4, rfl⟩ := z90 (hvd j _ u h3 h2)
              rw [hμ] at h4; cases h4
              exact ih
            · exact (hvd j _ u h3 h2).d_inv.goes hg
          have := DRel.ptr (w := w) (own := ownOf out (μ.upd n none)) [.fn f (caps.map fun c => c.getD (cycD f caps i))] 0 b 0 (fun _ => .func (.func f) #[] vs)
            (fun j d hj => by
              have hj0 : j = 0 := by have := (List.getElem?_eq_some_iff.1 hj).1; simpa using this
              subst hj0
              exact ⟨hnb, hcell0, hone⟩)
            (fun j d hj => by
              have hj0 : j = 0 := by have := (List.getElem?_eq_some_iff.1 hj).1; simpa using this
              subst hj0
              simp at hj
              subst hj
              exact hfn)
          exact this
      refine ⟨μ.upd n none, ?_, hown⟩
      refine h.turn (n := n) (f := cycLeaf (cycD f caps depth)) hg (fun k hk => Pl.upd_ne μ _ hk) (fun y u hy hr => ?_) (fun _ _ _ _ _ _ _ => rfl) (Nat.le_refl _)
        (fun k hk => by rw [z36, List.getElem?_set_ne (Ne.symm hk)]) (fun b' hb' => by rw [z36] at hb'; simp [hlt] at hb') (fun hs => by rw [Pl.upd_same] at hs; cases hs)
        (fun b z l c hc => by rw [Pl.upd_same] at hc; cases hc)
      unfold cycLeaf
      split
      · rename_i k
        simp only [AV.name?, Option.some.injEq] at hy
        subst hy
        obtain ⟨b2, z2, l2, c2, h4, rfl⟩ := z90 hr
        rw [hμ] at h4; cases h4
        exact .d (key depth)
      · exact .undef _
    · exact ⟨μ, h, fun _ hb => hb⟩
  · exact ⟨μ, h, fun _ hb => hb⟩
theorem z562 {rd : Option Nat} {n : Nat} {ops : Array Oper} {l : Nat} {items : List (List DV)} (hG : GivesE P l J items) (ys : List Nat) (p : Nat) {id : Nat} {Q : Exit → Option Nat → St → Prop} (hfol : P.follows .mixedOrders = true) (hback : backB ops = true) (hp : tailB ops p = true) (hps : p ≤ ops.size)
    (G : (Nat → Bool) → St) (h0 : G (fun i => decide (i < p)) = st) (hs : stepsC P (ops.toList.take p) G (ops.toList.take p) 0) {s1 : St} (hw : Weak (G fun _ => false) s1) (h : runE P l items ys ops (ops.toList.drop p) k s1 (Q .normal)) :
    Walk P rd n J (.region id ops true) k st Q := fun B base out μ tmps w ds hO hst hJ hM => by
  refine wpIn_region_any hfol ?_
  have hB0 : Below w.heap.size w { w with drawn := w.drawn + 1 } := (Below.refl _ w).drew
  have hsz : ops.size = (ops.size - p) + p := by omega
  conv => arg 7; rw [hsz]
  have htk : ∀ (j : Nat) (o : Oper), ops[j]? = some o → j < p → (ops.toList.take p)[j]? = some o := fun j o ho hj => by rw [List.getElem?_take, if_pos hj]; simpa using ho
  refine z698 (st' := G fun _ => false) (fun i => i) (fun a b => ¬ Anc ops a b) (fun rs s s' => LeftC ops G rs s s' ∧ (∀ i ∈ rs, i < p) ∧ ∀ (j : Nat) (o : Oper), j < p → ops[j]? = some o → j ∉ rs → ∀ e ∈ o.after, Region.binds .any e = true → e.on ∉ rs)
    (fun s s' hc => by rw [hc.1.now, hc.1.fin]; rfl) (fun r rs s s' hc => ?_) (fun r B s s' A hA hc => ?_)
    hback p (fun i j hi hj hs => z165 hp i j (by omega) hj hs) (ops.size - p) p _ (List.range p) st μ tmps _ (by simp) (by simpa using List.pairwise_lt_range) (by simp) (fun i => ?_) (fun j hj hs => by simp [hs]) (fun k o ho hk => ?_) ?_ ?_ (hst.below hB0) (fun listed' tmps' μ' w' g1 g2 g3 h1 hB hS => ?_)
  · obtain ⟨⟨h1, h2, h3, h4, h5⟩, h7, h6⟩ := hc
    have hr := h5 r (by simp)
    have hrp := h7 r (by simp)
    obtain ⟨o, ho⟩ : ∃ o, ops[r]? = some o := ⟨ops[r], by simp [hr]⟩
    rw [List.pairwise_cons] at h4
    rw [List.nodup_cons] at h3
    have hni : ∀ e ∈ o.after, Region.binds .any e = true → e.on ∉ r :: rs := by
      intro e he hb hc
      have hlt := z111 hback ho he hb
      have hanc : Anc ops e.on r := .edge ho he hb
      rcases List.mem_cons.1 hc with hc | hc
      · omega
      · exact h4.1 _ hc hanc
    have hg := z222 (ops.toList.take p) 0 r o hs (htk r o ho hrp) (fun i => (r :: rs).contains i) (by simp) (z213 fun e he hb => by
      simpa using hni e (by simpa using he) hb) (z238 _ _ fun j q hq hm => z213 fun e he hb => by
        have hj : j ∉ r :: rs := by simpa using hm
        rw [List.getElem?_take] at hq
        split at hq
        · rename_i hjp
          simpa using h6 j q hjp (by simpa using hq) hj e (by simpa using he) hb
        · cases hq)
    obtain ⟨hd, hgu, hk⟩ := hg
    obtain ⟨s1, hs1, he⟩ := z124 hk
    refine ⟨o, s1, ho, hd, by unfold StepG; rw [hgu, h1]; exact hs1, ?_⟩
    refine ⟨⟨?_, h2, h3.2, h4.2, fun i hi => h5 i (by simp [hi])⟩, fun i hi => h7 i (by simp [hi]), fun j q hjp hq hj e he hb hc => ?_⟩
    · rw [he]
      congr 1
      funext j
      unfold offM
      rw [Nat.zero_add]
      by_cases hj : j = r
      · subst hj
        rw [if_pos rfl]
        have : ¬ rs.contains j = true := by simpa using h3.1
        simpa using this
      · rw [if_neg hj]
        simp [hj]
    · by_cases hjr : j = r
      · subst hjr
        rw [hq] at ho
        cases ho
        exact hni e he hb (by simp [hc])
      · exact h6 j q hjp hq (by simp [hjr, hj]) e he hb (by simp [hc])
  · obtain ⟨⟨h1, h2, h3, h4, h5⟩, h7, h6⟩ := hc
    have hsub : (A ++ B).Sublist (A ++ r :: B) := List.Sublist.append_left (List.sublist_cons_self r B) A
    have hmem : ∀ i, i ∈ r :: (A ++ B) ↔ i ∈ A ++ r :: B := by
      intro i
      simp
      constructor
      · rintro (h | h | h) <;> simp [h]
      · rintro (h | h | h) <;> simp [h]
    refine ⟨⟨?_, h2, ?_, ?_, fun i hi => h5 i ((hmem i).1 hi)⟩, fun i hi => h7 i ((hmem i).1 hi), fun j q hjp hq hj e he hb hc => h6 j q hjp hq (fun h => hj ((hmem j).2 h)) e he hb ((hmem _).1 hc)⟩
    · rw [h1]
      congr 1
      funext j
      rw [Bool.eq_iff_iff]
      simp
      constructor
      · rintro (h | h | h) <;> simp [h]
      · rintro (h | h | h) <;> simp [h]
    · rw [List.nodup_cons]
      refine ⟨?_, h3.sublist hsub⟩
      rw [List.nodup_append] at h3
      intro hc
      rcases List.mem_append.1 hc with hc | hc
      · exact h3.2.2 r hc r (by simp) rfl
      · exact (List.nodup_cons.1 h3.2.1).1 hc
    · rw [List.pairwise_cons]
      refine ⟨fun b hb => ?_, h4.sublist hsub⟩
      rcases List.mem_append.1 hb with hb | hb
      · exact hA b hb
      · rw [List.pairwise_append] at h4
        exact (List.pairwise_cons.1 h4.2.1).1 b hb
  · simp only [List.map_id', List.mem_range, Array.getElem?_replicate]
    constructor
    · intro hi; exact ⟨hi, by rw [if_pos (by omega)]⟩
    · intro hi; exact hi.1
  · simp only [Array.getElem?_replicate] at hk
    split at hk <;> simp at hk
  · have hpr : (List.range p).Pairwise (· < ·) := List.pairwise_lt_range
    exact hpr.imp fun {a b} _ => Classical.em _
  · refine ⟨⟨?_, rfl, List.nodup_range, ?_, fun i hi => by have := List.mem_range.1 hi; omega⟩, fun i hi => List.mem_range.1 hi, fun j o hjp ho hj => absurd (List.mem_range.2 hjp) hj⟩
    · rw [← h0]
      congr 1
      funext i
      rw [Bool.eq_iff_iff]
      simp
    · exact List.pairwise_lt_range.imp fun {a b} hab hc => by
        have := z911 hback hc
        omega
  · have hB1 := (KeepO.below (own := ownOf out μ) hB0 hst.le).trans hB
    refine z450 hback (z165 hp) (ops.size - p) p listed' _ w' (by omega) (Nat.le_refl _) g1 (fun i hi => g2 i hi (by omega)) g3 ?_
    have hst1 : Stays w (ownOf out μ) w' (ownOf out μ') := ⟨hB1.keep.below.size, hB1.stays⟩
    obtain ⟨μ3, h3, hsub⟩ := hw P base out μ' tmps' w' h1
    have hst2 : Stays w (ownOf out μ) w' (ownOf out μ3) := hst1.trans (.less hsub)
    have := z226 (n := n) (rd := rd) hG hO (ds := ds) (Qm := Ends P J B (dsts (.region id ops true)) (ownOf out μ) tmps w Q) (ops.toList.drop p) p k s1 (Q .normal) base out μ3 tmps' w' (fun j o hj => by simpa [List.getElem?_drop] using hj) h h3 (Firm.next hJ hB1.keep.below) (Nat.le_trans hM.1 hst1.1)
      (fun k' st' base' out' μ2 tmps2 w2 h2 hJ' hs hSa hk => ⟨k', st', base', out', μ2, h2, hJ', hM.stays (hst2.trans hs), hst2.trans hs, hS.trans (hSa.mono fun i hi => z185 p hi), hk⟩)
    simpa using this
theorem z112 {rd : Option Nat} {n : Nat} {ops : Array Oper} {l : Nat} {items : List (List DV)} (hG : GivesE P l J items) (ys : List Nat) (p : Nat) {id : Nat} {cs : List Code} {Q : Exit → Option Nat → St → Prop} (hfol : P.follows .mixedOrders = true) (hback : backB ops = true) (hp : tailB ops p = true) (hps : p ≤ ops.size)
    (G : (Nat → Bool) → St) (h0 : G (fun i => decide (i < p)) = st) (hs : stepsC P (ops.toList.take p) G (ops.toList.take p) 0) {s1 : St} (hw : Weak (G fun _ => false) s1)
    (h : ∀ K : Option Nat → St → Prop, (∀ k s, WalkL P rd n J cs k s Q → K k s) → runE P l items ys ops (ops.toList.drop p) k s1 K) : WalkL P rd n J (.region id ops true :: cs) k st Q :=
  z562 hG ys p hfol hback hp hps G h0 hs hw (h _ fun _ _ h => h)
theorem z458 {n : Nat} {α : Type} {cs : List Code} {Q : Exit → Option Nat → St → Prop} {g : Operand} {ps : Array Tmp} {assign body : Code} {f : FuncId} {pre post : List AV} {items : List (List DV)} (ns : List Nat) {m0 : List Blk}
    (hg : rangeOf st g = some (f, pre, post)) (hnd : ns.Nodup) (hm0 : ceded st ns ns = some m0) (hit : IterE P f m0 (fun l => (pre ++ .d (.yld l) :: post).map (AV.mapN (inv ns))) items) (hps : ∀ row ∈ items, row.length = ps.size)
    (ts : α → List (Nat × AV)) (ms : α → List (Nat × Option Blk)) (I : Nat → α → Prop) (Ix : Exit → α → Prop) (a0 : α) (hw : Weak (st.cede ns) ((st.cede ns).head (dsts (.rangeFunc g ps assign body)) (ts a0) (ms a0))) (h0 : I 0 a0)
    (hround : ∀ X W i a row, items[i]? = some row → I i a → ∀ l m, WalkL P (some l) m (lendJ X W J) [assign] k { t := setPs ps.toList row ((st.cede ns).head (dsts (.rangeFunc g ps assign body)) (ts a) (ms a)).t, m := ((st.cede ns).head (dsts (.rangeFunc g ps assign body)) (ts a) (ms a)).m }
      (thenA (fun k2 s => WalkL P (some l) m (lendJ X W J) [body] k2 s fun e k3 s3 => k3 = k ∧ match e with
        | .normal => ∃ a', Weak (s3.wipe (dsts (.rangeFunc g ps assign body))) ((st.cede ns).head (dsts (.rangeFunc g ps assign body)) (ts a') (ms a')) ∧ I (i + 1) a'
        | e => (jumpCode e).isSome ∧ ∃ a', Weak (s3.wipe (dsts (.rangeFunc g ps assign body))) ((st.cede ns).head (dsts (.rangeFunc g ps assign body)) (ts a') (ms a')) ∧ Ix e a') (fun _ _ _ => False)))
    (hdone : ∀ a, I items.length a → WalkL P none n J cs k ((st.cede ns).head (dsts (.rangeFunc g ps assign body)) (ts a) (ms a)) Q) (hstop : ∀ e a, Ix e a → (jumpCode e).isSome → Q e k ((st.cede ns).head (dsts (.rangeFunc g ps assign body)) (ts a) (ms a))) :
    WalkL P none n J (.rangeFunc g ps assign body :: cs) k st Q := by
  refine z459 ns hg hnd hm0 hit hps (fun a => (st.cede ns).head (dsts (.rangeFunc g ps assign body)) (ts a) (ms a)) (fun k' i a => k' = k ∧ I i a) (fun e k' a => k' = k ∧ Ix e a) a0 hw ⟨rfl, h0⟩ ?_ ?_ ?_
  · rintro X W k' i a row hi ⟨rfl, hI⟩ l m
    refine z101 (hround X W i a row hi hI l m) fun e k2 s hq => ?_
    cases e with
    | normal =>
      refine z101 (z57 hq) fun e k3 s3 hq3 => ?_
      obtain ⟨rfl, h⟩ := hq3
      cases e with
      | normal => obtain ⟨a', h1, h2⟩ := h; exact ⟨a', h1, rfl, h2⟩
      | _ => obtain ⟨hj, a', h1, h2⟩ := h; exact ⟨hj, a', h1, rfl, h2⟩
    | _ => exact hq
  · rintro k' a ⟨rfl, hI⟩; exact hdone a hI
  · rintro e k' a ⟨rfl, hI⟩ hj; exact hstop e a hI hj
end
theorem z664 {P : Program} {l : Nat} {items : List (List DV)} {o : Oper} {k : Option Nat} {s : St} {K K' : Option Nat → St → Prop} (h : callYK P l items o k s K) (hK : ∀ k s, K k s → K' k s) : callYK P l items o k s K' := by
  obtain ⟨kk, h1, gx, h2, ns, m0, its, a1, a2, a3, a4, a5, a6⟩ := h
  exact ⟨kk, h1, gx, h2, ns, m0, its, a1, a2, a3, a4, hK _ _ a5, hK _ _ a6⟩
theorem z361 {P : Program} {l : Nat} {items : List (List DV)} {ys : List Nat} {o : Oper} {k : Option Nat} {s : St} {K K' : Option Nat → St → Prop} (h : stepE P l items ys o k s K) (hK : ∀ k s, K k s → K' k s) : stepE P l items ys o k s K' := by
  unfold stepE at h ⊢
  split
  · rename_i hy
    rw [hy] at h
    obtain ⟨h1, kk, row, h2, h3, h4, h5, h6, h7⟩ := h
    exact ⟨h1, kk, row, h2, h3, h4, h5, hK _ _ h6, hK _ _ h7⟩
  · rename_i hy
    rw [hy] at h
    dsimp only at h ⊢
    split at h
    · exact z664 h hK
    · exact z223 h fun s => hK k s
theorem z440 (P : Program) (l : Nat) (items : List (List DV)) (ys : List Nat) (o : Oper) (k : Option Nat) (s : St) (R : Option Nat → St → Prop) : guardRunEY P l items ys (.d (.bool true)) true o k s R = stepE P l items ys o k s R := by
  apply propext
  exact ⟨fun h => (h R (fun _ _ h => h)).1 rfl, fun h K' hK => ⟨fun _ => z361 h hK, fun e => (by cases e)⟩⟩
theorem z443 (P : Program) (l : Nat) (items : List (List DV)) (ys : List Nat) (o : Oper) (k : Option Nat) (s : St) (R : Option Nat → St → Prop) : guardRunEY P l items ys (.d (.bool false)) false o k s R = stepE P l items ys o k s R := by
  apply propext
  exact ⟨fun h => (h R (fun _ _ h => h)).1 rfl, fun h K' hK => ⟨fun _ => z361 h hK, fun e => (by cases e)⟩⟩
theorem z441 (P : Program) (l : Nat) (items : List (List DV)) (ys : List Nat) (o : Oper) (k : Option Nat) (s : St) (R : Option Nat → St → Prop) : guardRunEY P l items ys (.d (.bool true)) false o k s R = R k (s.put o.dst .void) := by
  apply propext
  exact ⟨fun h => (h R (fun _ _ h => h)).2 rfl, fun h K' hK => ⟨fun e => (by cases e), fun _ => hK _ _ h⟩⟩
theorem z442 (P : Program) (l : Nat) (items : List (List DV)) (ys : List Nat) (o : Oper) (k : Option Nat) (s : St) (R : Option Nat → St → Prop) : guardRunEY P l items ys (.d (.bool false)) true o k s R = R k (s.put o.dst .void) := by
  apply propext
  exact ⟨fun h => (h R (fun _ _ h => h)).2 rfl, fun h K' hK => ⟨fun e => (by cases e), fun _ => hK _ _ h⟩⟩
theorem z303 (P : Program) (l : Nat) (items : List (List DV)) (ys : List Nat) (want : Bool) (o : Oper) (k : Option Nat) (s : St) (R : Option Nat → St → Prop) : guardRunEY P l items ys .void want o k s R = R k (s.put o.dst .void) := by
  apply propext
  exact ⟨fun h => h R (fun _ _ h => h), fun h K' hK => hK _ _ h⟩
theorem z866 (P : Program) (l : Nat) (items : List (List DV)) (ys : List Nat) (ops : Array Oper) (k : Option Nat) (s : St) (K : Option Nat → St → Prop) : runE P l items ys ops [] k s K = K k s := rfl
theorem z799 (P : Program) (l : Nat) (items : List (List DV)) (ys : List Nat) (ops : Array Oper) (o : Oper) (os : List Oper) (k : Option Nat) (x : AV) (t : List AV) (m : List (Option Blk)) (K : Option Nat → St → Prop) : runE P l items ys ops (o :: os) k ⟨x :: t, m⟩ K = (dstOk o = true ∧ match guardT ops o with
    | none => False
    | some none => stepE P l items ys o k ⟨x :: t, m⟩ fun k s => runE P l items ys ops os k s K
    | some (some (t', want)) => guardRunEY P l items ys ((⟨x :: t, m⟩ : St).ev (.tmp t')) want o k ⟨x :: t, m⟩ fun k s => runE P l items ys ops os k s K) := rfl
attribute [go_sem] stepE yieldOf z440 z443 z441 z442 z303 z866 z799 z851 z852 rangeOf St.cede cedeM retY pinsY nameV viaVh St.asVh St.fewer vcOf St.vRoom St.vFull St.cyc cycCaps cycLeaf opSliceA opCopyA opCopyB List.take_succ_cons List.take_zero List.take_nil List.drop_succ_cons List.drop_zero List.drop_nil
end Go.Ab
/- Another name for a block; drawn regions of which what is told is what differs. -/
namespace Go.Ab
open Go.RowKit
def St.rename (a b : Nat) (st : St) : St := match (st.m[a]? : Option (Option Blk)), (st.m[b]? : Option (Option Blk)) with
  | some (some x), some none => { t := st.t.map (AV.mapN (mv a b)), m := (((st.m.map (Option.map (Blk.mapN (mv a b)))).set a none).set b (some (x.mapN (mv a b)))) }
  | _, _ => st
section
variable {P : Program} {base : Own} {out : Own} {st st' : St} {μ : Pl} {tmps : Array Value} {w w' : World}
theorem z560 (a L : Nat) (st : St) : Weak st (st.rename a L) := by
  intro P base out μ tmps w h
  unfold St.rename
  split
  · rename_i b hb hL
    have hab : a ≠ L := fun e => by subst e; rw [hb] at hL; cases hL
    have hno : ∀ k, (μ k).isSome → k ≠ L := fun k hk e => by
      obtain ⟨b, hb⟩ := h.mem.dom k hk
      subst e; rw [hL] at hb; cases hb
    obtain ⟨μ', hμ'⟩ : ∃ μ' : Pl, μ' = fun k => if k = L then μ a else if k = a then none else μ k := ⟨_, rfl⟩
    have hs : ∀ k L', μ' k = some L' → (k = L ∧ μ a = some L') ∨ (k ≠ L ∧ k ≠ a ∧ μ k = some L') := by
      intro k L' hk
      rw [hμ'] at hk
      dsimp only at hk
      split at hk
      · rename_i e; exact .inl ⟨e, hk⟩
      · split at hk
        · cases hk
        · rename_i e1 e2; exact .inr ⟨e1, e2, hk⟩
    have hsub : ∀ b, ownOf out μ' b → ownOf out μ b := by
      rintro b (h | ⟨n, z, l, c, h⟩)
      · exact .inl h
      · rcases hs n _ h with ⟨_, h⟩ | ⟨_, _, h⟩
        · exact .inr ⟨a, z, l, c, h⟩
        · exact .inr ⟨n, z, l, c, h⟩
    have hg : Goes w (ownOf out μ) w (ownOf out μ') := fun b o v h1 h2 => ⟨fun hc => h1 (hsub b hc), h2⟩
    have hmv : ∀ n, (μ n).isSome → ∀ k, mv a L n = some k → μ' k = μ n := by
      intro n hn k hk
      have := hno n hn
      unfold mv at hk
      rw [hμ']
      split at hk
      · rename_i e; cases hk; subst e; simp
      · rename_i e
        cases hk
        simp only
        rw [if_neg this, if_neg e]
    have hLl : L < st.m.length := (List.getElem?_eq_some_iff.1 hL).1
    refine ⟨μ', ⟨by rw [h.size]; simp, fun i x v hx hv => ?_, ⟨fun k b' hk => ?_, fun k hk => ?_, fun k1 k2 b' z l c z' l' c' h1 h2 => ?_, fun k b' z l c hk => ?_⟩, h.hid.less hsub, h.out, h.le⟩, hsub⟩
    · simp only [List.getElem?_map, Option.map_eq_some_iff] at hx
      obtain ⟨y, hx, rfl⟩ := hx
      exact (h.tmp i y v hx hv).mapN (.inl hg) (fun n _ hn k hk => hmv n hn k hk)
    · dsimp only at hk
      rw [List.getElem?_set] at hk
      split at hk
      · rename_i e
        subst e
        split at hk
        · have hk := (Option.some.inj (Option.some.inj hk))
          subst hk
          exact BlkRel.mapN (n := a) (.inl hg) (by rw [hμ']; simp) hmv (fun _ _ _ _ _ => rfl) (h.mem.blk a b hb)
        · cases hk
      · rename_i hkL
        rw [List.getElem?_set] at hk
        split at hk
        · split at hk <;> cases hk
        · rename_i hka
          simp only [List.getElem?_map, Option.map_eq_some_iff] at hk
          obtain ⟨ob, hob, b0, rfl, rfl⟩ := hk
          exact BlkRel.mapN (.inl hg) (by rw [hμ']; simp only; rw [if_neg (Ne.symm hkL), if_neg (Ne.symm hka)]) hmv (fun _ _ _ _ _ => rfl) (h.mem.blk k b0 hob)
    · obtain ⟨L', hL'⟩ := Option.isSome_iff_exists.1 hk
      rcases hs k L' hL' with ⟨rfl, _⟩ | ⟨hkl, hka, hk'⟩
      · exact ⟨b.mapN (mv a k), by rw [List.getElem?_set_self (by simp; exact hLl)]⟩
      · obtain ⟨b', hb'⟩ := h.mem.dom k (by simp [hk'])
        refine ⟨b'.mapN (mv a L), ?_⟩
        rw [List.getElem?_set_ne (Ne.symm hkl), List.getElem?_set_ne (Ne.symm hka)]
        simp [hb']
    · rcases hs k1 _ h1 with ⟨rfl, e1⟩ | ⟨e1, e1a, e1b⟩
      · rcases hs k2 _ h2 with ⟨rfl, _⟩ | ⟨_, e2a, e2b⟩
        · rfl
        · exact absurd (h.mem.inj a k2 b' _ _ _ _ _ _ e1 e2b).symm e2a
      · rcases hs k2 _ h2 with ⟨rfl, e2⟩ | ⟨_, e2a, e2b⟩
        · exact absurd (h.mem.inj k1 a b' _ _ _ _ _ _ e1b e2) e1a
        · exact h.mem.inj k1 k2 b' _ _ _ _ _ _ e1b e2b
    · rcases hs k _ hk with ⟨_, e⟩ | ⟨_, _, e⟩
      · exact h.mem.base a b' z l c e
      · exact h.mem.base k b' z l c e
  · exact ⟨μ, h, fun _ hb => hb⟩
end
theorem z243 {P : Program} {rd : Option Nat} {n : Nat} {J : Env} {c : Code} {cs : List Code} {k : Option Nat} {st : St} {Q : Exit → Option Nat → St → Prop} (a b : Nat) (h : WalkL P rd n J (c :: cs) k (st.rename a b) Q) : WalkL P rd n J (c :: cs) k st Q :=
  z67 (z560 a b st) h
attribute [go_sem] St.rename
theorem z354 {P : Program} {rd : Option Nat} {n : Nat} {J : Env} {c : Code} {cs : List Code} {k : Option Nat} {st : St} {Q : Exit → Option Nat → St → Prop} (ds : List Nat) (ts : List (Nat × AV)) (ms : List (Nat × Option Blk)) (hw : Weak st (st.head ds ts ms)) (h : WalkL P rd n J (c :: cs) k (st.head ds ts ms) Q) :
    WalkL P rd n J (c :: cs) k st Q := z67 hw h
theorem z88 {P : Program} {rd : Option Nat} {n : Nat} {J : Env} {cs : List Code} {k : Option Nat} {st : St} {Q : Exit → Option Nat → St → Prop} {id : Nat} {ops : Array Oper} (ts : (Nat → Bool) → List (Nat × AV)) (ms : (Nat → Bool) → List (Nat × Option Blk)) (p : Nat) (hfol : P.follows .mixedOrders = true) (hback : backB ops = true)
    (hp : tailB ops p = true) (hps : p ≤ ops.size) (h0 : st.head [] (ts fun i => decide (i < p)) (ms fun i => decide (i < p)) = st) (hs : stepsC P (ops.toList.take p) (fun m => st.head [] (ts m) (ms m)) (ops.toList.take p) 0)
    {s1 : St} (hw : Weak (st.head [] (ts fun _ => false) (ms fun _ => false)) s1) (h : ∀ K : Option Nat → St → Prop, (∀ k s, WalkL P rd n J cs k s Q → K k s) → runE P 0 [] [] ops (ops.toList.drop p) k s1 K) : WalkL P rd n J (.region id ops true :: cs) k st Q :=
  z112 (l := 0) (items := []) (fun _ _ _ _ _ _ _ _ h => by simp at h) [] p hfol hback hp hps (fun m => st.head [] (ts m) (ms m)) h0 hs hw h
inductive SeqW (P : Program) (ops : Array Oper) : List Oper → St → St → Prop where
  | nil (s : St) : SeqW P ops [] s s
  | cons {o : Oper} {os : List Oper} {s s1 s' : St} (hd : dstOk o = true) (h : StepG P ops o s s1) (ht : SeqW P ops os s1 s') : SeqW P ops (o :: os) s s'
  | weak {os : List Oper} {s s1 s' : St} (hw : Weak s s1) (ht : SeqW P ops os s1 s') : SeqW P ops os s s'
theorem SeqW.of {P : Program} {ops : Array Oper} {os : List Oper} {s s' : St} (h : Seq P ops os s s') : SeqW P ops os s s' := by
  induction h with
  | nil s => exact .nil s
  | cons hd h _ ih => exact .cons hd h ih
theorem SeqW.append {P : Program} {ops : Array Oper} {os os2 : List Oper} {s s1 s2 : St} (h : SeqW P ops os s s1) (h2 : SeqW P ops os2 s1 s2) : SeqW P ops (os ++ os2) s s2 := by
  induction h with
  | nil s => exact h2
  | cons hd h _ ih => exact .cons hd h (ih h2)
  | weak hw _ ih => exact .weak hw (ih h2)
section
variable {P : Program} {base : Own} {out : Own} {st st' : St} {ops : Array Oper} {rd : Option Nat} {n : Nat} {Q : Exit → Act → World → Prop}
theorem z913 {os : List Oper} {st st' : St} (hs : SeqW P ops os st st') : ∀ (k : Nat) (μ : Pl) (tmps : Array Value) (w : World), (∀ i o, os[i]? = some o → ops[k + i]? = some o) → StRel P base out st μ tmps w → ∀ {ds : List Deferred},
    (∀ tmps' μ' w', StRel P base out st' μ' tmps' w' → KeepO base (ownOf out μ) w (ownOf out μ') w' → Same (opDsts os) tmps tmps' → Q .normal { tmps := tmps', defers := ds } w') →
    wpOpsIn (fence rd) n P ops Q (List.range' k os.length) { tmps := tmps, defers := ds } w := by
  induction hs with
  | nil s => exact fun k μ tmps w _ h ds hK => hK _ μ w h (KeepO.refl _ _ _) (Same.refl _ _)
  | @cons o os s s1 s' hd h1 ht ih =>
    intro k μ tmps w hos h ds hK
    rw [List.length_cons, List.range'_succ, wpOpsIn_cons]
    refine z125 h (by simpa using hos 0 o (by simp)) hd h1 (fun tmps' μ' w' h2 hB hS => ?_)
    exact ih (k + 1) μ' tmps' w' (fun i o' hi => by have := hos (i + 1) o' (by simpa using hi); rwa [show k + 1 + i = k + (i + 1) by omega]) h2
      (fun tmps2 μ2 w2 h3 hB2 hS2 => hK tmps2 μ2 w2 h3 (hB.trans hB2) (hS.cons hS2))
  | weak hw ht ih =>
    intro k μ tmps w hos h ds hK
    obtain ⟨μ3, h3, hsub⟩ := hw P base out μ tmps w h
    exact ih k μ3 tmps w hos h3 fun tmps2 μ2 w2 h4 hB2 hS2 => hK tmps2 μ2 w2 h4 ((KeepO.less hsub).trans hB2) hS2
end
theorem z455 {P : Program} {rd : Option Nat} {n : Nat} {J : Env} {k : Option Nat} {st s3 : St} {Q : Exit → Option Nat → St → Prop} {id : Nat} {ops : Array Oper} (hs : SeqW P ops ops.toList st s3) (hq : Q .normal k s3) : Walk P rd n J (.region id ops false) k st Q := fun B base out μ tmps w ds _ hst hJ hM => by
  refine wpIn_region ?_
  have := z913 (n := n) (rd := rd) (Q := Ends P J B (dsts (.region id ops false)) (ownOf out μ) tmps w Q) hs 0 μ tmps w (fun i o hi => by simpa using hi) hst (ds := ds) (fun tmps' μ' w' h3 hk hS => .step hJ h3 hk hS hM hq)
  rw [List.range_eq_range']
  simpa using this
theorem z194 {P : Program} {rd : Option Nat} {n : Nat} {J : Env} {cs : List Code} {k : Option Nat} {st : St} {Q : Exit → Option Nat → St → Prop} {id : Nat} {ops : Array Oper} (p : Nat)
    (h : ∀ K : St → Prop, (∀ s, WalkL P rd n J cs k s Q → K s) → runK P ops (ops.toList.take p) st fun s => ∃ s1, Weak s s1 ∧ runK P ops (ops.toList.drop p) s1 K) : WalkL P rd n J (.region id ops false :: cs) k st Q := by
  obtain ⟨s1, h1, s2, hw, h2⟩ := z199 _ _ _ (h _ fun _ h => h)
  obtain ⟨s3, h3, h4⟩ := z199 _ _ _ h2
  have hs : SeqW P ops ops.toList st s3 := by
    have := (SeqW.of h1).append (.weak hw (.of h3))
    rwa [List.take_append_drop] at this
  exact z455 hs h4
end Go.Ab
/- What a function makes of its own, told as a deep value. -/
namespace Go.Ab
open Go.RowKit
theorem FnG.deep {P : Program} {f : FuncId} {args : List DV} {r : AV} {m1 : List Blk} {d : DV} (h : FnG P f [] [] (args.map AV.d) r m1) (hr : reify (m1.map some) Ab.deep r = some d) : Fn P f args d :=
  ⟨h.enters, fun w own vs hb hh hd => (h.calls (ltU w.heap.size) w own (fun _ => none) vs hb (fun _ h => h)
      ⟨fun n b h => by simp at h, fun n h => by simp at h, fun n k b z l c z' l' c' h => by simp at h, fun n b z l c h => by simp at h⟩
      (hh.less fun b hb => hb.elim id fun ⟨_, _, _, _, h⟩ => by simp at h) (by simpa using hd.1) (fun i x v hx hv => by
        simp only [List.getElem?_map, Option.map_eq_some_iff] at hx
        obtain ⟨y, hy, rfl⟩ := hx
        refine .d ((hd.2 i y v hy hv).goes fun b o u h1 h2 => ⟨fun hc => h1 (hc.elim id fun ⟨_, _, _, _, h⟩ => by simp at h), h2⟩))).mono fun en w' hq => by
    obtain ⟨v, μ1, he, hv, hm, hk, _⟩ := hq
    exact ⟨v, he, z64 hm own (fun b hb => .inl hb) (fun _ => True) (fun n b z l c _ hμ => (hm.base n b z l c hμ).2.2) Ab.deep r v d hv hr (fun _ _ => trivial) (.inl fun _ _ _ _ _ _ => trivial), hk.keep.below.to⟩⟩
end Go.Ab
namespace Go.Ab
open Go.RowKit Go.Proofs
set_option maxHeartbeats 8000000
set_option maxRecDepth 20000
attribute [local irreducible] WalkL Walk
theorem z1022 (s : Int) (g : Nat) (caps : List DV) (b : Bool) (hq : Fn Try.prog g (.i s :: caps) (.bool b)) : Fn Try.prog 88 [.i s, .ptr [.fn g caps] 0] (.bool (!b)) := by
  refine z22 8 Try.call88 Try.func88 rfl (by decide) fun J => ?_
  simp (maxSteps := 4000000) only [go_sem, St.start, Try.ntmps88, Try.results88]
  repeat (first | refine nx (by first | (constructor; done) | exact .other rfl) ?_ | (refine z10 fun K hK => ?_; simp (maxSteps := 4000000) only [go_sem]; refine hK _ ?_; clear hK K))
  refine z10 fun K hK => ?_
  simp (maxSteps := 4000000) only [go_sem]
  refine ⟨_, .lent (hf := hq) (hd := z54 _ _ _ _ rfl) (hr := rfl), ?_⟩
  simp (maxSteps := 4000000) only [go_sem]
  refine hK _ ?_
  clear hK K
  repeat (first | refine nx (by first | (constructor; done) | exact .other rfl) ?_ | (refine z10 fun K hK => ?_; simp (maxSteps := 4000000) only [go_sem]; refine hK _ ?_; clear hK K))
  simp (maxSteps := 4000000) only [go_sem]
theorem z1001 (xs : List Int) (g : Nat) (caps : List DV) (q : Int → Bool) (hq : ∀ s ∈ xs, Fn Try.prog g (.i s :: caps) (.bool (q s))) (hl : xs.length < 2 ^ 62) : Fn Try.prog 67 [.sl (intRows xs), .fn g caps] (.bool (xs.all q)) := by
  have h := z1023 xs 88 [.ptr [.fn g caps] 0] (fun s => !q s) (fun s hs => z1022 s g caps (q s) (hq s hs)) hl
  refine z22 9 Try.call67 Try.func67 rfl (by decide) fun J => ?_
  simp (maxSteps := 4000000) only [go_sem, St.start, Try.ntmps67, Try.results67]
  repeat (first | refine nx (by first | (constructor; done) | exact .other rfl) ?_ | (refine z10 fun K hK => ?_; simp (maxSteps := 4000000) only [go_sem]; (repeat (first | (refine ⟨_, .lent (hf := h) (hd := rfl) (hr := rfl), ?_⟩; simp (maxSteps := 4000000) only [go_sem]) | (refine ⟨_, .given (hf := h) (hd := rfl) (ha := rfl), ?_⟩; simp (maxSteps := 4000000) only [go_sem]))); refine hK _ ?_; clear hK K))
  simp (maxSteps := 4000000) only [go_sem, z319]
theorem z951 (xs : List Batch) (g : Nat) (caps : List DV) (q : Batch → Bool) (hq : ∀ s ∈ xs, Fn Try.prog g (.agg s.row :: caps) (.bool (q s))) (hl : xs.length < 2 ^ 62) : Fn Try.prog 104 [.sl (batRows xs), .fn g caps] (.i (idxFrom q xs 0)) := by
  refine z22 19 Try.call104 Try.func104 rfl (by decide) fun J => ?_
  simp (maxSteps := 4000000) only [go_sem, St.start, Try.ntmps104, Try.results104]
  repeat (first | refine nx (by first | (constructor; done) | exact .other rfl) ?_ | (refine z10 fun K hK => ?_; simp (maxSteps := 4000000) only [go_sem]; refine hK _ ?_; clear hK K))
  refine z17 (fun (i : Nat) => [(8, .d (.i i))]) (fun _ => []) (fun i => i ≤ xs.length ∧ idxFrom q xs 0 = idxFrom q (xs.drop i) i) (fun i => xs.length - i) 0 ?_ ⟨Nat.zero_le _, rfl⟩ ?_
  · simp (maxSteps := 4000000) only [go_sem]
    refine z13 [] ?_ ?_ rfl rfl <;> simp [lessT, lessM, lessB, AV.less]
  · intro i ⟨hi, hq0⟩
    simp (maxSteps := 4000000) only [go_sem]
    repeat (first | refine nx (by first | (constructor; done) | exact .other rfl) ?_ | (refine z10 fun K hK => ?_; simp (maxSteps := 4000000) only [go_sem]; refine hK _ ?_; clear hK K))
    refine z16 rfl (fun hb => ?_) (fun hb => ?_)
    · have hlt : i < xs.length := by simpa using hb
      have hw : IntKind.i64.wrap ((i : Int) + 1) = ((i + 1 : Nat) : Int) := by rw [z20 (by omega)]; simp
      obtain ⟨s, hs⟩ : ∃ s, xs[i]? = some s := ⟨_, List.getElem?_eq_getElem hlt⟩
      rw [z34 hs, idxFrom] at hq0
      repeat (first | refine nx (by first | (constructor; done) | exact .other rfl) ?_ | (refine z10 fun K hK => ?_; simp (maxSteps := 4000000) only [go_sem]; refine hK _ ?_; clear hK K))
      refine z10 fun K hK => ?_
      simp (maxSteps := 4000000) only [go_sem, hs, List.getElem?_map, z240 hs, Batch.row, hw]
      refine ⟨_, .lent (hf := hq s (List.mem_of_getElem? hs)) (hd := z54 _ _ _ _ rfl) (hr := rfl), ?_⟩
      simp (maxSteps := 4000000) only [go_sem]
      refine hK _ ?_
      clear hK K
      refine z16 rfl (fun hc => ?_) (fun hc => ?_)
      · rw [hc, if_pos rfl] at hq0
        repeat (first | refine nx (by first | (constructor; done) | exact .other rfl) ?_ | (refine z10 fun K hK => ?_; simp (maxSteps := 4000000) only [go_sem]; refine hK _ ?_; clear hK K))
        simp (maxSteps := 4000000) only [go_sem, hq0]
      · rw [hc] at hq0
        repeat (first | refine nx (by first | (constructor; done) | exact .other rfl) ?_ | (refine z10 fun K hK => ?_; simp (maxSteps := 4000000) only [go_sem, hw]; refine hK _ ?_; clear hK K))
        refine ⟨rfl, i + 1, ?_, ⟨hlt, hq0⟩, by omega⟩
        refine z13 [] ?_ ?_ rfl rfl <;> simp [lessT, lessM, lessB, AV.less]
    · have he : i = xs.length := by (have : ¬ i < xs.length := by simpa using hb); omega
      subst he
      repeat (first | refine nx (by first | (constructor; done) | exact .other rfl) ?_ | (refine z10 fun K hK => ?_; simp (maxSteps := 4000000) only [go_sem]; refine hK _ ?_; clear hK K))
      simp (maxSteps := 4000000) only [go_sem, hq0, List.drop_length, idxFrom]
theorem z1019 (xs : List Batch) (g : Nat) (caps : List DV) (q : Batch → Bool) (hq : ∀ s ∈ xs, Fn Try.prog g (.agg s.row :: caps) (.bool (q s))) (hl : xs.length < 2 ^ 62) : Fn Try.prog 91 [.sl (batRows xs), .fn g caps] (.bool (xs.any q)) := by
  refine z22 9 Try.call91 Try.func91 rfl (by decide) fun J => ?_
  simp (maxSteps := 4000000) only [go_sem, St.start, Try.ntmps91, Try.results91]
  repeat (first | refine nx (by first | (constructor; done) | exact .other rfl) ?_ | (refine z10 fun K hK => ?_; simp (maxSteps := 4000000) only [go_sem]; (repeat (first | (refine ⟨_, .lent (hf := z951 xs g caps q hq hl) (hd := rfl) (hr := rfl), ?_⟩; simp (maxSteps := 4000000) only [go_sem]) | (refine ⟨_, .given (hf := z951 xs g caps q hq hl) (hd := rfl) (ha := rfl), ?_⟩; simp (maxSteps := 4000000) only [go_sem]))); refine hK _ ?_; clear hK K))
  simp (maxSteps := 4000000) only [go_sem, z59]
theorem z1018 (s : Batch) (g : Nat) (caps : List DV) (b : Bool) (hq : Fn Try.prog g (.agg s.row :: caps) (.bool b)) : Fn Try.prog 92 [.agg s.row, .ptr [.fn g caps] 0] (.bool (!b)) := by
  refine z22 8 Try.call92 Try.func92 rfl (by decide) fun J => ?_
  simp (maxSteps := 4000000) only [go_sem, St.start, Try.ntmps92, Try.results92, Batch.row]
  repeat (first | refine nx (by first | (constructor; done) | exact .other rfl) ?_ | (refine z10 fun K hK => ?_; simp (maxSteps := 4000000) only [go_sem]; refine hK _ ?_; clear hK K))
  refine z10 fun K hK => ?_
  simp (maxSteps := 4000000) only [go_sem]
  refine ⟨_, .lent (hf := hq) (hd := z54 _ _ _ _ rfl) (hr := rfl), ?_⟩
  simp (maxSteps := 4000000) only [go_sem]
  refine hK _ ?_
  clear hK K
  repeat (first | refine nx (by first | (constructor; done) | exact .other rfl) ?_ | (refine z10 fun K hK => ?_; simp (maxSteps := 4000000) only [go_sem]; refine hK _ ?_; clear hK K))
  simp (maxSteps := 4000000) only [go_sem]
theorem z1034 (xs : List Batch) (g : Nat) (caps : List DV) (q : Batch → Bool) (hq : ∀ s ∈ xs, Fn Try.prog g (.agg s.row :: caps) (.bool (q s))) (hl : xs.length < 2 ^ 62) : Fn Try.prog 71 [.sl (batRows xs), .fn g caps] (.bool (xs.all q)) := by
  have h := z1019 xs 92 [.ptr [.fn g caps] 0] (fun s => !q s) (fun s hs => z1018 s g caps (q s) (hq s hs)) hl
  refine z22 9 Try.call71 Try.func71 rfl (by decide) fun J => ?_
  simp (maxSteps := 4000000) only [go_sem, St.start, Try.ntmps71, Try.results71]
  repeat (first | refine nx (by first | (constructor; done) | exact .other rfl) ?_ | (refine z10 fun K hK => ?_; simp (maxSteps := 4000000) only [go_sem]; (repeat (first | (refine ⟨_, .lent (hf := h) (hd := rfl) (hr := rfl), ?_⟩; simp (maxSteps := 4000000) only [go_sem]) | (refine ⟨_, .given (hf := h) (hd := rfl) (ha := rfl), ?_⟩; simp (maxSteps := 4000000) only [go_sem]))); refine hK _ ?_; clear hK K))
  simp (maxSteps := 4000000) only [go_sem, z319]
theorem z950 (xs : List Dish) (g : Nat) (caps : List DV) (q : Dish → Bool) (hq : ∀ s ∈ xs, Fn Try.prog g (.agg s.row :: caps) (.bool (q s))) (hl : xs.length < 2 ^ 62) : Fn Try.prog 105 [.sl (dishRows xs), .fn g caps] (.i (idxFrom q xs 0)) := by
  refine z22 19 Try.call105 Try.func105 rfl (by decide) fun J => ?_
  simp (maxSteps := 4000000) only [go_sem, St.start, Try.ntmps105, Try.results105]
  repeat (first | refine nx (by first | (constructor; done) | exact .other rfl) ?_ | (refine z10 fun K hK => ?_; simp (maxSteps := 4000000) only [go_sem]; refine hK _ ?_; clear hK K))
  refine z17 (fun (i : Nat) => [(8, .d (.i i))]) (fun _ => []) (fun i => i ≤ xs.length ∧ idxFrom q xs 0 = idxFrom q (xs.drop i) i) (fun i => xs.length - i) 0 ?_ ⟨Nat.zero_le _, rfl⟩ ?_
  · simp (maxSteps := 4000000) only [go_sem]
    refine z13 [] ?_ ?_ rfl rfl <;> simp [lessT, lessM, lessB, AV.less]
  · intro i ⟨hi, hq0⟩
    simp (maxSteps := 4000000) only [go_sem]
    repeat (first | refine nx (by first | (constructor; done) | exact .other rfl) ?_ | (refine z10 fun K hK => ?_; simp (maxSteps := 4000000) only [go_sem]; refine hK _ ?_; clear hK K))
    refine z16 rfl (fun hb => ?_) (fun hb => ?_)
    · have hlt : i < xs.length := by simpa using hb
      have hw : IntKind.i64.wrap ((i : Int) + 1) = ((i + 1 : Nat) : Int) := by rw [z20 (by omega)]; simp
      obtain ⟨s, hs⟩ : ∃ s, xs[i]? = some s := ⟨_, List.getElem?_eq_getElem hlt⟩
      rw [z34 hs, idxFrom] at hq0
      repeat (first | refine nx (by first | (constructor; done) | exact .other rfl) ?_ | (refine z10 fun K hK => ?_; simp (maxSteps := 4000000) only [go_sem]; refine hK _ ?_; clear hK K))
      refine z10 fun K hK => ?_
      simp (maxSteps := 4000000) only [go_sem, hs, List.getElem?_map, z109 hs, Dish.row, hw]
      refine ⟨_, .lent (hf := hq s (List.mem_of_getElem? hs)) (hd := z54 _ _ _ _ rfl) (hr := rfl), ?_⟩
      simp (maxSteps := 4000000) only [go_sem]
      refine hK _ ?_
      clear hK K
      refine z16 rfl (fun hc => ?_) (fun hc => ?_)
      · rw [hc, if_pos rfl] at hq0
        repeat (first | refine nx (by first | (constructor; done) | exact .other rfl) ?_ | (refine z10 fun K hK => ?_; simp (maxSteps := 4000000) only [go_sem]; refine hK _ ?_; clear hK K))
        simp (maxSteps := 4000000) only [go_sem, hq0]
      · rw [hc] at hq0
        repeat (first | refine nx (by first | (constructor; done) | exact .other rfl) ?_ | (refine z10 fun K hK => ?_; simp (maxSteps := 4000000) only [go_sem, hw]; refine hK _ ?_; clear hK K))
        refine ⟨rfl, i + 1, ?_, ⟨hlt, hq0⟩, by omega⟩
        refine z13 [] ?_ ?_ rfl rfl <;> simp [lessT, lessM, lessB, AV.less]
    · have he : i = xs.length := by (have : ¬ i < xs.length := by simpa using hb); omega
      subst he
      repeat (first | refine nx (by first | (constructor; done) | exact .other rfl) ?_ | (refine z10 fun K hK => ?_; simp (maxSteps := 4000000) only [go_sem]; refine hK _ ?_; clear hK K))
      simp (maxSteps := 4000000) only [go_sem, hq0, List.drop_length, idxFrom]
theorem z1017 (xs : List Dish) (g : Nat) (caps : List DV) (q : Dish → Bool) (hq : ∀ s ∈ xs, Fn Try.prog g (.agg s.row :: caps) (.bool (q s))) (hl : xs.length < 2 ^ 62) : Fn Try.prog 93 [.sl (dishRows xs), .fn g caps] (.bool (xs.any q)) := by
  refine z22 9 Try.call93 Try.func93 rfl (by decide) fun J => ?_
  simp (maxSteps := 4000000) only [go_sem, St.start, Try.ntmps93, Try.results93]
  repeat (first | refine nx (by first | (constructor; done) | exact .other rfl) ?_ | (refine z10 fun K hK => ?_; simp (maxSteps := 4000000) only [go_sem]; (repeat (first | (refine ⟨_, .lent (hf := z950 xs g caps q hq hl) (hd := rfl) (hr := rfl), ?_⟩; simp (maxSteps := 4000000) only [go_sem]) | (refine ⟨_, .given (hf := z950 xs g caps q hq hl) (hd := rfl) (ha := rfl), ?_⟩; simp (maxSteps := 4000000) only [go_sem]))); refine hK _ ?_; clear hK K))
  simp (maxSteps := 4000000) only [go_sem, z59]
theorem z1016 (s : Dish) (g : Nat) (caps : List DV) (b : Bool) (hq : Fn Try.prog g (.agg s.row :: caps) (.bool b)) : Fn Try.prog 94 [.agg s.row, .ptr [.fn g caps] 0] (.bool (!b)) := by
  refine z22 8 Try.call94 Try.func94 rfl (by decide) fun J => ?_
  simp (maxSteps := 4000000) only [go_sem, St.start, Try.ntmps94, Try.results94, Dish.row]
  repeat (first | refine nx (by first | (constructor; done) | exact .other rfl) ?_ | (refine z10 fun K hK => ?_; simp (maxSteps := 4000000) only [go_sem]; refine hK _ ?_; clear hK K))
  refine z10 fun K hK => ?_
  simp (maxSteps := 4000000) only [go_sem]
  refine ⟨_, .lent (hf := hq) (hd := z54 _ _ _ _ rfl) (hr := rfl), ?_⟩
  simp (maxSteps := 4000000) only [go_sem]
  refine hK _ ?_
  clear hK K
  repeat (first | refine nx (by first | (constructor; done) | exact .other rfl) ?_ | (refine z10 fun K hK => ?_; simp (maxSteps := 4000000) only [go_sem]; refine hK _ ?_; clear hK K))
  simp (maxSteps := 4000000) only [go_sem]
theorem z1033 (xs : List Dish) (g : Nat) (caps : List DV) (q : Dish → Bool) (hq : ∀ s ∈ xs, Fn Try.prog g (.agg s.row :: caps) (.bool (q s))) (hl : xs.length < 2 ^ 62) : Fn Try.prog 72 [.sl (dishRows xs), .fn g caps] (.bool (xs.all q)) := by
  have h := z1017 xs 94 [.ptr [.fn g caps] 0] (fun s => !q s) (fun s hs => z1016 s g caps (q s) (hq s hs)) hl
  refine z22 9 Try.call72 Try.func72 rfl (by decide) fun J => ?_
  simp (maxSteps := 4000000) only [go_sem, St.start, Try.ntmps72, Try.results72]
  repeat (first | refine nx (by first | (constructor; done) | exact .other rfl) ?_ | (refine z10 fun K hK => ?_; simp (maxSteps := 4000000) only [go_sem]; (repeat (first | (refine ⟨_, .lent (hf := h) (hd := rfl) (hr := rfl), ?_⟩; simp (maxSteps := 4000000) only [go_sem]) | (refine ⟨_, .given (hf := h) (hd := rfl) (ha := rfl), ?_⟩; simp (maxSteps := 4000000) only [go_sem]))); refine hK _ ?_; clear hK K))
  simp (maxSteps := 4000000) only [go_sem, z319]
theorem z952 (xs : List Diners) (g : Nat) (caps : List DV) (q : Diners → Bool) (hq : ∀ s ∈ xs, Fn Try.prog g (.agg s.row :: caps) (.bool (q s))) (hl : xs.length < 2 ^ 62) : Fn Try.prog 103 [.sl (dinRows xs), .fn g caps] (.i (idxFrom q xs 0)) := by
  refine z22 19 Try.call103 Try.func103 rfl (by decide) fun J => ?_
  simp (maxSteps := 4000000) only [go_sem, St.start, Try.ntmps103, Try.results103]
  repeat (first | refine nx (by first | (constructor; done) | exact .other rfl) ?_ | (refine z10 fun K hK => ?_; simp (maxSteps := 4000000) only [go_sem]; refine hK _ ?_; clear hK K))
  refine z17 (fun (i : Nat) => [(8, .d (.i i))]) (fun _ => []) (fun i => i ≤ xs.length ∧ idxFrom q xs 0 = idxFrom q (xs.drop i) i) (fun i => xs.length - i) 0 ?_ ⟨Nat.zero_le _, rfl⟩ ?_
  · simp (maxSteps := 4000000) only [go_sem]
    refine z13 [] ?_ ?_ rfl rfl <;> simp [lessT, lessM, lessB, AV.less]
  · intro i ⟨hi, hq0⟩
    simp (maxSteps := 4000000) only [go_sem]
    repeat (first | refine nx (by first | (constructor; done) | exact .other rfl) ?_ | (refine z10 fun K hK => ?_; simp (maxSteps := 4000000) only [go_sem]; refine hK _ ?_; clear hK K))
    refine z16 rfl (fun hb => ?_) (fun hb => ?_)
    · have hlt : i < xs.length := by simpa using hb
      have hw : IntKind.i64.wrap ((i : Int) + 1) = ((i + 1 : Nat) : Int) := by rw [z20 (by omega)]; simp
      obtain ⟨s, hs⟩ : ∃ s, xs[i]? = some s := ⟨_, List.getElem?_eq_getElem hlt⟩
      rw [z34 hs, idxFrom] at hq0
      repeat (first | refine nx (by first | (constructor; done) | exact .other rfl) ?_ | (refine z10 fun K hK => ?_; simp (maxSteps := 4000000) only [go_sem]; refine hK _ ?_; clear hK K))
      refine z10 fun K hK => ?_
      simp (maxSteps := 4000000) only [go_sem, hs, List.getElem?_map, z68 hs, Diners.row, hw]
      refine ⟨_, .lent (hf := hq s (List.mem_of_getElem? hs)) (hd := z54 _ _ _ _ rfl) (hr := rfl), ?_⟩
      simp (maxSteps := 4000000) only [go_sem]
      refine hK _ ?_
      clear hK K
      refine z16 rfl (fun hc => ?_) (fun hc => ?_)
      · rw [hc, if_pos rfl] at hq0
        repeat (first | refine nx (by first | (constructor; done) | exact .other rfl) ?_ | (refine z10 fun K hK => ?_; simp (maxSteps := 4000000) only [go_sem]; refine hK _ ?_; clear hK K))
        simp (maxSteps := 4000000) only [go_sem, hq0]
      · rw [hc] at hq0
        repeat (first | refine nx (by first | (constructor; done) | exact .other rfl) ?_ | (refine z10 fun K hK => ?_; simp (maxSteps := 4000000) only [go_sem, hw]; refine hK _ ?_; clear hK K))
        refine ⟨rfl, i + 1, ?_, ⟨hlt, hq0⟩, by omega⟩
        refine z13 [] ?_ ?_ rfl rfl <;> simp [lessT, lessM, lessB, AV.less]
    · have he : i = xs.length := by (have : ¬ i < xs.length := by simpa using hb); omega
      subst he
      repeat (first | refine nx (by first | (constructor; done) | exact .other rfl) ?_ | (refine z10 fun K hK => ?_; simp (maxSteps := 4000000) only [go_sem]; refine hK _ ?_; clear hK K))
      simp (maxSteps := 4000000) only [go_sem, hq0, List.drop_length, idxFrom]
theorem z1021 (xs : List Diners) (g : Nat) (caps : List DV) (q : Diners → Bool) (hq : ∀ s ∈ xs, Fn Try.prog g (.agg s.row :: caps) (.bool (q s))) (hl : xs.length < 2 ^ 62) : Fn Try.prog 89 [.sl (dinRows xs), .fn g caps] (.bool (xs.any q)) := by
  refine z22 9 Try.call89 Try.func89 rfl (by decide) fun J => ?_
  simp (maxSteps := 4000000) only [go_sem, St.start, Try.ntmps89, Try.results89]
  repeat (first | refine nx (by first | (constructor; done) | exact .other rfl) ?_ | (refine z10 fun K hK => ?_; simp (maxSteps := 4000000) only [go_sem]; (repeat (first | (refine ⟨_, .lent (hf := z952 xs g caps q hq hl) (hd := rfl) (hr := rfl), ?_⟩; simp (maxSteps := 4000000) only [go_sem]) | (refine ⟨_, .given (hf := z952 xs g caps q hq hl) (hd := rfl) (ha := rfl), ?_⟩; simp (maxSteps := 4000000) only [go_sem]))); refine hK _ ?_; clear hK K))
  simp (maxSteps := 4000000) only [go_sem, z59]
theorem z1020 (s : Diners) (g : Nat) (caps : List DV) (b : Bool) (hq : Fn Try.prog g (.agg s.row :: caps) (.bool b)) : Fn Try.prog 90 [.agg s.row, .ptr [.fn g caps] 0] (.bool (!b)) := by
  refine z22 8 Try.call90 Try.func90 rfl (by decide) fun J => ?_
  simp (maxSteps := 4000000) only [go_sem, St.start, Try.ntmps90, Try.results90, Diners.row]
  repeat (first | refine nx (by first | (constructor; done) | exact .other rfl) ?_ | (refine z10 fun K hK => ?_; simp (maxSteps := 4000000) only [go_sem]; refine hK _ ?_; clear hK K))
  refine z10 fun K hK => ?_
  simp (maxSteps := 4000000) only [go_sem]
  refine ⟨_, .lent (hf := hq) (hd := z54 _ _ _ _ rfl) (hr := rfl), ?_⟩
  simp (maxSteps := 4000000) only [go_sem]
  refine hK _ ?_
  clear hK K
  repeat (first | refine nx (by first | (constructor; done) | exact .other rfl) ?_ | (refine z10 fun K hK => ?_; simp (maxSteps := 4000000) only [go_sem]; refine hK _ ?_; clear hK K))
  simp (maxSteps := 4000000) only [go_sem]
theorem z1035 (xs : List Diners) (g : Nat) (caps : List DV) (q : Diners → Bool) (hq : ∀ s ∈ xs, Fn Try.prog g (.agg s.row :: caps) (.bool (q s))) (hl : xs.length < 2 ^ 62) : Fn Try.prog 70 [.sl (dinRows xs), .fn g caps] (.bool (xs.all q)) := by
  have h := z1021 xs 90 [.ptr [.fn g caps] 0] (fun s => !q s) (fun s hs => z1020 s g caps (q s) (hq s hs)) hl
  refine z22 9 Try.call70 Try.func70 rfl (by decide) fun J => ?_
  simp (maxSteps := 4000000) only [go_sem, St.start, Try.ntmps70, Try.results70]
  repeat (first | refine nx (by first | (constructor; done) | exact .other rfl) ?_ | (refine z10 fun K hK => ?_; simp (maxSteps := 4000000) only [go_sem]; (repeat (first | (refine ⟨_, .lent (hf := h) (hd := rfl) (hr := rfl), ?_⟩; simp (maxSteps := 4000000) only [go_sem]) | (refine ⟨_, .given (hf := h) (hd := rfl) (ha := rfl), ?_⟩; simp (maxSteps := 4000000) only [go_sem]))); refine hK _ ?_; clear hK K))
  simp (maxSteps := 4000000) only [go_sem, z319]
theorem z949 (xs : List (List Diners)) (g : Nat) (caps : List DV) (q : (List Diners) → Bool) (hq : ∀ s ∈ xs, Fn Try.prog g (.sl (dinRows s) :: caps) (.bool (q s))) (hl : xs.length < 2 ^ 62) : Fn Try.prog 106 [.sl (dayRows xs), .fn g caps] (.i (idxFrom q xs 0)) := by
  refine z22 19 Try.call106 Try.func106 rfl (by decide) fun J => ?_
  simp (maxSteps := 4000000) only [go_sem, St.start, Try.ntmps106, Try.results106]
  repeat (first | refine nx (by first | (constructor; done) | exact .other rfl) ?_ | (refine z10 fun K hK => ?_; simp (maxSteps := 4000000) only [go_sem]; refine hK _ ?_; clear hK K))
  refine z17 (fun (i : Nat) => [(8, .d (.i i))]) (fun _ => []) (fun i => i ≤ xs.length ∧ idxFrom q xs 0 = idxFrom q (xs.drop i) i) (fun i => xs.length - i) 0 ?_ ⟨Nat.zero_le _, rfl⟩ ?_
  · simp (maxSteps := 4000000) only [go_sem]
    refine z13 [] ?_ ?_ rfl rfl <;> simp [lessT, lessM, lessB, AV.less]
  · intro i ⟨hi, hq0⟩
    simp (maxSteps := 4000000) only [go_sem]
    repeat (first | refine nx (by first | (constructor; done) | exact .other rfl) ?_ | (refine z10 fun K hK => ?_; simp (maxSteps := 4000000) only [go_sem]; refine hK _ ?_; clear hK K))
    refine z16 rfl (fun hb => ?_) (fun hb => ?_)
    · have hlt : i < xs.length := by simpa using hb
      have hw : IntKind.i64.wrap ((i : Int) + 1) = ((i + 1 : Nat) : Int) := by rw [z20 (by omega)]; simp
      obtain ⟨s, hs⟩ : ∃ s, xs[i]? = some s := ⟨_, List.getElem?_eq_getElem hlt⟩
      rw [z34 hs, idxFrom] at hq0
      repeat (first | refine nx (by first | (constructor; done) | exact .other rfl) ?_ | (refine z10 fun K hK => ?_; simp (maxSteps := 4000000) only [go_sem]; refine hK _ ?_; clear hK K))
      refine z10 fun K hK => ?_
      simp (maxSteps := 4000000) only [go_sem, hs, List.getElem?_map, z69 hs, hw]
      refine ⟨_, .lent (hf := hq s (List.mem_of_getElem? hs)) (hd := z54 _ _ _ _ rfl) (hr := rfl), ?_⟩
      simp (maxSteps := 4000000) only [go_sem]
      refine hK _ ?_
      clear hK K
      refine z16 rfl (fun hc => ?_) (fun hc => ?_)
      · rw [hc, if_pos rfl] at hq0
        repeat (first | refine nx (by first | (constructor; done) | exact .other rfl) ?_ | (refine z10 fun K hK => ?_; simp (maxSteps := 4000000) only [go_sem]; refine hK _ ?_; clear hK K))
        simp (maxSteps := 4000000) only [go_sem, hq0]
      · rw [hc] at hq0
        repeat (first | refine nx (by first | (constructor; done) | exact .other rfl) ?_ | (refine z10 fun K hK => ?_; simp (maxSteps := 4000000) only [go_sem, hw]; refine hK _ ?_; clear hK K))
        refine ⟨rfl, i + 1, ?_, ⟨hlt, hq0⟩, by omega⟩
        refine z13 [] ?_ ?_ rfl rfl <;> simp [lessT, lessM, lessB, AV.less]
    · have he : i = xs.length := by (have : ¬ i < xs.length := by simpa using hb); omega
      subst he
      repeat (first | refine nx (by first | (constructor; done) | exact .other rfl) ?_ | (refine z10 fun K hK => ?_; simp (maxSteps := 4000000) only [go_sem]; refine hK _ ?_; clear hK K))
      simp (maxSteps := 4000000) only [go_sem, hq0, List.drop_length, idxFrom]
theorem z1015 (xs : List (List Diners)) (g : Nat) (caps : List DV) (q : (List Diners) → Bool) (hq : ∀ s ∈ xs, Fn Try.prog g (.sl (dinRows s) :: caps) (.bool (q s))) (hl : xs.length < 2 ^ 62) : Fn Try.prog 95 [.sl (dayRows xs), .fn g caps] (.bool (xs.any q)) := by
  refine z22 9 Try.call95 Try.func95 rfl (by decide) fun J => ?_
  simp (maxSteps := 4000000) only [go_sem, St.start, Try.ntmps95, Try.results95]
  repeat (first | refine nx (by first | (constructor; done) | exact .other rfl) ?_ | (refine z10 fun K hK => ?_; simp (maxSteps := 4000000) only [go_sem]; (repeat (first | (refine ⟨_, .lent (hf := z949 xs g caps q hq hl) (hd := rfl) (hr := rfl), ?_⟩; simp (maxSteps := 4000000) only [go_sem]) | (refine ⟨_, .given (hf := z949 xs g caps q hq hl) (hd := rfl) (ha := rfl), ?_⟩; simp (maxSteps := 4000000) only [go_sem]))); refine hK _ ?_; clear hK K))
  simp (maxSteps := 4000000) only [go_sem, z59]
theorem z1014 (s : (List Diners)) (g : Nat) (caps : List DV) (b : Bool) (hq : Fn Try.prog g (.sl (dinRows s) :: caps) (.bool b)) : Fn Try.prog 96 [.sl (dinRows s), .ptr [.fn g caps] 0] (.bool (!b)) := by
  refine z22 8 Try.call96 Try.func96 rfl (by decide) fun J => ?_
  simp (maxSteps := 4000000) only [go_sem, St.start, Try.ntmps96, Try.results96]
  repeat (first | refine nx (by first | (constructor; done) | exact .other rfl) ?_ | (refine z10 fun K hK => ?_; simp (maxSteps := 4000000) only [go_sem]; refine hK _ ?_; clear hK K))
  refine z10 fun K hK => ?_
  simp (maxSteps := 4000000) only [go_sem]
  refine ⟨_, .lent (hf := hq) (hd := z54 _ _ _ _ rfl) (hr := rfl), ?_⟩
  simp (maxSteps := 4000000) only [go_sem]
  refine hK _ ?_
  clear hK K
  repeat (first | refine nx (by first | (constructor; done) | exact .other rfl) ?_ | (refine z10 fun K hK => ?_; simp (maxSteps := 4000000) only [go_sem]; refine hK _ ?_; clear hK K))
  simp (maxSteps := 4000000) only [go_sem]
theorem z1032 (xs : List (List Diners)) (g : Nat) (caps : List DV) (q : (List Diners) → Bool) (hq : ∀ s ∈ xs, Fn Try.prog g (.sl (dinRows s) :: caps) (.bool (q s))) (hl : xs.length < 2 ^ 62) : Fn Try.prog 73 [.sl (dayRows xs), .fn g caps] (.bool (xs.all q)) := by
  have h := z1015 xs 96 [.ptr [.fn g caps] 0] (fun s => !q s) (fun s hs => z1014 s g caps (q s) (hq s hs)) hl
  refine z22 9 Try.call73 Try.func73 rfl (by decide) fun J => ?_
  simp (maxSteps := 4000000) only [go_sem, St.start, Try.ntmps73, Try.results73]
  repeat (first | refine nx (by first | (constructor; done) | exact .other rfl) ?_ | (refine z10 fun K hK => ?_; simp (maxSteps := 4000000) only [go_sem]; (repeat (first | (refine ⟨_, .lent (hf := h) (hd := rfl) (hr := rfl), ?_⟩; simp (maxSteps := 4000000) only [go_sem]) | (refine ⟨_, .given (hf := h) (hd := rfl) (ha := rfl), ?_⟩; simp (maxSteps := 4000000) only [go_sem]))); refine hK _ ?_; clear hK K))
  simp (maxSteps := 4000000) only [go_sem, z319]
end Go.Ab
namespace Go.Ab
open Go.RowKit Go.Proofs
set_option maxHeartbeats 8000000
set_option maxRecDepth 20000
attribute [local irreducible] WalkL Walk
def setB (n : Int) : Bool := withinB n 0 255
def batchB (goods : Int) (b : Batch) : Bool := withinB b.good 0 (goods - 1) && (withinB b.amount 0 1000000 && withinB b.last 0 30)
def needB (n : Int) : Bool := withinB n 0 5000
def dishB (goods : Int) (d : Dish) : Bool := ((d.needs.length : Int) == goods) && d.needs.all needB
def groupB (g : Diners) : Bool := setB g.no && (decide (0 ≤ g.count.lo) && (decide (g.count.lo ≤ g.count.hi) && decide (g.count.hi ≤ 100)))
def dayB (l : List Diners) : Bool := decide ((l.length : Int) ≤ 3) && l.all groupB
def badKit (k : Kitchen) : Bool := !withinB (k.allerg.length : Int) 1 6 || (!k.allerg.all setB || (decide ((k.batches.length : Int) > 10) || (!k.batches.all (batchB k.allerg.length) || (!withinB (k.dishes.length : Int) 1 5 || (!k.dishes.all (dishB k.allerg.length) || (!withinB (k.days.length : Int) 1 6 || !k.days.all dayB))))))
def kitE (k : Kitchen) : Int := if badKit k then 70 else 0
theorem z848 (n lo hi : Int) : Fn Try.prog 54 [.i n, .i lo, .i hi] (.bool (withinB n lo hi)) := by
  unfold withinB
  refine z22 15 Try.call54 Try.func54 rfl (by decide) fun J => ?_
  simp (maxSteps := 4000000) only [go_sem, St.start, Try.ntmps54, Try.results54]
  cases q : decide (lo ≤ n)
  · repeat (first | refine nx (by first | (constructor; done) | exact .other rfl) ?_ | (refine z10 fun K hK => ?_; simp (maxSteps := 4000000) only [go_sem, q]; refine hK _ ?_; clear hK K))
    simp (maxSteps := 4000000) only [go_sem, Bool.false_and]
  · repeat (first | refine nx (by first | (constructor; done) | exact .other rfl) ?_ | (refine z10 fun K hK => ?_; simp (maxSteps := 4000000) only [go_sem, q]; refine hK _ ?_; clear hK K))
    simp (maxSteps := 4000000) only [go_sem, Bool.true_and]
theorem z979 (n : Int) : Fn Try.prog 62 [.i n] (.bool (setB n)) := by
  have h := z848 n 0 255
  refine z22 5 Try.call62 Try.func62 rfl (by decide) fun J => ?_
  simp (maxSteps := 4000000) only [go_sem, St.start, Try.ntmps62, Try.results62]
  repeat (first | refine nx (by first | (constructor; done) | exact .other rfl) ?_ | (refine z10 fun K hK => ?_; simp (maxSteps := 4000000) only [go_sem]; (repeat (first | (refine ⟨_, .lent (hf := h) (hd := rfl) (hr := rfl), ?_⟩; simp (maxSteps := 4000000) only [go_sem]) | (refine ⟨_, .given (hf := h) (hd := rfl) (ha := rfl), ?_⟩; simp (maxSteps := 4000000) only [go_sem]))); refine hK _ ?_; clear hK K))
  simp (maxSteps := 4000000) only [go_sem, setB]
theorem z1039 (n : Int) : Fn Try.prog 65 [.i n] (.bool (needB n)) := by
  have h := z848 n 0 5000
  refine z22 5 Try.call65 Try.func65 rfl (by decide) fun J => ?_
  simp (maxSteps := 4000000) only [go_sem, St.start, Try.ntmps65, Try.results65]
  repeat (first | refine nx (by first | (constructor; done) | exact .other rfl) ?_ | (refine z10 fun K hK => ?_; simp (maxSteps := 4000000) only [go_sem]; (repeat (first | (refine ⟨_, .lent (hf := h) (hd := rfl) (hr := rfl), ?_⟩; simp (maxSteps := 4000000) only [go_sem]) | (refine ⟨_, .given (hf := h) (hd := rfl) (ha := rfl), ?_⟩; simp (maxSteps := 4000000) only [go_sem]))); refine hK _ ?_; clear hK K))
  simp (maxSteps := 4000000) only [go_sem, needB]
theorem z1040 (goods : Int) (b : Batch) (hg : 0 ≤ goods ∧ goods < 2 ^ 30) : Fn Try.prog 64 [.agg b.row, .ptr [.i goods] 0] (.bool (batchB goods b)) := by
  have h1 := z848 b.good 0 (goods - 1)
  have h2 := z848 b.amount 0 1000000
  have h3 := z848 b.last 0 30
  have w : IntKind.i64.wrap (goods - 1) = goods - 1 := z20 (by omega)
  unfold batchB
  obtain ⟨b1, e1⟩ : ∃ x, x = withinB b.good 0 (goods - 1) := ⟨_, rfl⟩
  obtain ⟨b2, e2⟩ : ∃ x, x = withinB b.amount 0 1000000 := ⟨_, rfl⟩
  obtain ⟨b3, e3⟩ : ∃ x, x = withinB b.last 0 30 := ⟨_, rfl⟩
  rw [← e1] at h1 ⊢
  rw [← e2] at h2 ⊢
  rw [← e3] at h3 ⊢
  refine z22 19 Try.call64 Try.func64 rfl (by decide) fun J => ?_
  simp (maxSteps := 4000000) only [go_sem, St.start, Try.ntmps64, Try.results64, Batch.row]
  cases b1 <;> cases b2
  all_goals
    repeat (first | refine nx (by first | (constructor; done) | exact .other rfl) ?_ | (refine z10 fun K hK => ?_; simp (maxSteps := 4000000) only [go_sem, w]; (repeat (first | (refine ⟨_, .lent (hf := h1) (hd := rfl) (hr := rfl), ?_⟩; simp (maxSteps := 4000000) only [go_sem, w]) | (refine ⟨_, .lent (hf := h2) (hd := rfl) (hr := rfl), ?_⟩; simp (maxSteps := 4000000) only [go_sem, w]) | (refine ⟨_, .lent (hf := h3) (hd := rfl) (hr := rfl), ?_⟩; simp (maxSteps := 4000000) only [go_sem, w]) | (refine ⟨_, .given (hf := h1) (hd := rfl) (ha := rfl), ?_⟩; simp (maxSteps := 4000000) only [go_sem, w]) | (refine ⟨_, .given (hf := h2) (hd := rfl) (ha := rfl), ?_⟩; simp (maxSteps := 4000000) only [go_sem, w]) | (refine ⟨_, .given (hf := h3) (hd := rfl) (ha := rfl), ?_⟩; simp (maxSteps := 4000000) only [go_sem, w]))); refine hK _ ?_; clear hK K))
    simp (maxSteps := 4000000) only [go_sem, Bool.false_and, Bool.true_and]
theorem z1038 (goods : Int) (d : Dish) (hd : d.needs.length < 2 ^ 30) : Fn Try.prog 66 [.agg d.row, .ptr [.i goods] 0, .ptr [.fn 65 []] 0] (.bool (dishB goods d)) := by
  have h := z1001 d.needs 65 [] needB (fun n _ => z1039 n) (by omega)
  unfold dishB
  obtain ⟨b1, e1⟩ : ∃ x, ((d.needs.length : Int) == goods) = x := ⟨_, rfl⟩
  rw [e1]
  refine z22 16 Try.call66 Try.func66 rfl (by decide) fun J => ?_
  simp (maxSteps := 4000000) only [go_sem, St.start, Try.ntmps66, Try.results66, Dish.row]
  cases b1
  all_goals
    repeat (first | refine nx (by first | (constructor; done) | exact .other rfl) ?_ | (refine z10 fun K hK => ?_; simp (maxSteps := 4000000) only [go_sem, e1]; (repeat (first | (refine ⟨_, .lent (hf := h) (hd := rfl) (hr := rfl), ?_⟩; simp (maxSteps := 4000000) only [go_sem, e1]) | (refine ⟨_, .given (hf := h) (hd := rfl) (ha := rfl), ?_⟩; simp (maxSteps := 4000000) only [go_sem, e1]))); refine hK _ ?_; clear hK K))
    simp (maxSteps := 4000000) only [go_sem, Bool.false_and, Bool.true_and]
theorem z1037 (g : Diners) : Fn Try.prog 68 [.agg g.row] (.bool (groupB g)) := by
  have h := z979 g.no
  unfold groupB
  obtain ⟨b1, e1⟩ : ∃ x, x = setB g.no := ⟨_, rfl⟩
  obtain ⟨b2, e2⟩ : ∃ x, decide (0 ≤ g.count.lo) = x := ⟨_, rfl⟩
  obtain ⟨b3, e3⟩ : ∃ x, decide (g.count.lo ≤ g.count.hi) = x := ⟨_, rfl⟩
  rw [← e1] at h ⊢
  rw [e2, e3]
  refine z22 27 Try.call68 Try.func68 rfl (by decide) fun J => ?_
  simp (maxSteps := 4000000) only [go_sem, St.start, Try.ntmps68, Try.results68, Diners.row]
  cases b1 <;> cases b2 <;> cases b3
  all_goals
    repeat (first | refine nx (by first | (constructor; done) | exact .other rfl) ?_ | (refine z10 fun K hK => ?_; simp (maxSteps := 4000000) only [go_sem, e2, e3]; (repeat (first | (refine ⟨_, .lent (hf := h) (hd := rfl) (hr := rfl), ?_⟩; simp (maxSteps := 4000000) only [go_sem, e2, e3]) | (refine ⟨_, .given (hf := h) (hd := rfl) (ha := rfl), ?_⟩; simp (maxSteps := 4000000) only [go_sem, e2, e3]))); refine hK _ ?_; clear hK K))
    simp (maxSteps := 4000000) only [go_sem, Bool.false_and, Bool.true_and]
theorem z1036 (l : List Diners) (hl : l.length < 2 ^ 30) : Fn Try.prog 69 [.sl (dinRows l), .ptr [.fn 68 []] 0] (.bool (dayB l)) := by
  have h := z1035 l 68 [] groupB (fun g _ => z1037 g) (by omega)
  unfold dayB
  obtain ⟨b1, e1⟩ : ∃ x, decide ((l.length : Int) ≤ 3) = x := ⟨_, rfl⟩
  rw [e1]
  refine z22 12 Try.call69 Try.func69 rfl (by decide) fun J => ?_
  simp (maxSteps := 4000000) only [go_sem, St.start, Try.ntmps69, Try.results69]
  cases b1
  all_goals
    repeat (first | refine nx (by first | (constructor; done) | exact .other rfl) ?_ | (refine z10 fun K hK => ?_; simp (maxSteps := 4000000) only [go_sem, e1]; (repeat (first | (refine ⟨_, .lent (hf := h) (hd := rfl) (hr := rfl), ?_⟩; simp (maxSteps := 4000000) only [go_sem, e1]) | (refine ⟨_, .given (hf := h) (hd := rfl) (ha := rfl), ?_⟩; simp (maxSteps := 4000000) only [go_sem, e1]))); refine hK _ ?_; clear hK K))
    simp (maxSteps := 4000000) only [go_sem, Bool.false_and, Bool.true_and]
theorem z971 (k : Kitchen) (hs : KitSmall k) : Fn Try.prog 35 [.agg k.cells] (.i (kitE k)) := by
  have a1 := hs.allerg
  have h1 := z848 (k.allerg.length : Int) 1 6
  have h2 := z1001 k.allerg 62 [] setB (fun n _ => z979 n) (by omega)
  have h4 := z1034 k.batches 64 [.ptr [.i (k.allerg.length : Int)] 0] (batchB k.allerg.length) (fun b _ => z1040 _ b (by omega)) (by have := hs.batches; omega)
  have h5 := z848 (k.dishes.length : Int) 1 5
  have h6 := z1033 k.dishes 66 [.ptr [.i (k.allerg.length : Int)] 0, .ptr [.fn 65 []] 0] (dishB k.allerg.length) (fun d hd => z1038 _ d (hs.needs d hd)) (by have := hs.dishes; omega)
  have h7 := z848 (k.days.length : Int) 1 6
  have h8 := z1032 k.days 69 [.ptr [.fn 68 []] 0] dayB (fun d hd => z1036 d (hs.groups d hd)) (by have := hs.days; omega)
  unfold kitE
  refine z22 65 Try.call35 Try.func35 rfl (by decide) fun J => ?_
  simp (maxSteps := 4000000) only [go_sem, St.start, Try.ntmps35, Try.results35, Kitchen.cells]
  repeat (first | refine nx (by first | (constructor; done) | exact .other rfl) ?_ | (refine z10 fun K hK => ?_; simp (maxSteps := 4000000) only [go_sem]; refine hK _ ?_; clear hK K))
  refine z134 [(64, .d (.bool (badKit k)))] [] ?_ ?_
  · refine z10 fun K hK => ?_
    simp (maxSteps := 4000000) only [go_sem]
    refine ⟨_, .lent (hf := h1) (hd := rfl) (hr := rfl), ?_⟩
    simp (maxSteps := 4000000) only [go_sem]
    by_cases ho0 : (!withinB (k.allerg.length : Int) 1 6) = true
    · simp (maxSteps := 4000000) only [go_sem, ho0]
      refine hK _ ?_
      clear hK K
      refine z19 ?_
      refine z14 ?_
      refine ⟨rfl, ?_⟩
      rw [show (badKit k) = (true) from by simp [badKit, ho0]]
      simp (maxSteps := 4000000) only [go_sem]
      refine z13 [] ?_ ?_ rfl rfl <;> simp [lessT, lessM, lessB, AV.less]
    · simp (maxSteps := 4000000) only [go_sem, ho0]
      refine ⟨_, .lent (hf := h2) (hd := rfl) (hr := rfl), ?_⟩
      simp (maxSteps := 4000000) only [go_sem, ho0]
      by_cases ho1 : (!k.allerg.all setB) = true
      · simp (maxSteps := 4000000) only [go_sem, ho0, ho1]
        refine hK _ ?_
        clear hK K
        refine z19 ?_
        refine z14 ?_
        refine ⟨rfl, ?_⟩
        rw [show (badKit k) = (true) from by simp [badKit, ho0, ho1]]
        simp (maxSteps := 4000000) only [go_sem]
        refine z13 [] ?_ ?_ rfl rfl <;> simp [lessT, lessM, lessB, AV.less]
      · simp (maxSteps := 4000000) only [go_sem, ho0, ho1]
        by_cases ho2 : (decide ((k.batches.length : Int) > 10)) = true
        · simp (maxSteps := 4000000) only [go_sem, ho0, ho1, ho2]
          refine hK _ ?_
          clear hK K
          refine z19 ?_
          refine z14 ?_
          refine ⟨rfl, ?_⟩
          rw [show (badKit k) = (true) from by simp [badKit, ho0, ho1, ho2]]
          simp (maxSteps := 4000000) only [go_sem]
          refine z13 [] ?_ ?_ rfl rfl <;> simp [lessT, lessM, lessB, AV.less]
        · simp (maxSteps := 4000000) only [go_sem, ho0, ho1, ho2]
          refine ⟨_, .lent (hf := h4) (hd := rfl) (hr := rfl), ?_⟩
          simp (maxSteps := 4000000) only [go_sem, ho0, ho1, ho2]
          by_cases ho3 : (!k.batches.all (batchB k.allerg.length)) = true
          · simp (maxSteps := 4000000) only [go_sem, ho0, ho1, ho2, ho3]
            refine hK _ ?_
            clear hK K
            refine z19 ?_
            refine z14 ?_
            refine ⟨rfl, ?_⟩
            rw [show (badKit k) = (true) from by simp [badKit, ho0, ho1, ho2, ho3]]
            simp (maxSteps := 4000000) only [go_sem]
            refine z13 [] ?_ ?_ rfl rfl <;> simp [lessT, lessM, lessB, AV.less]
          · simp (maxSteps := 4000000) only [go_sem, ho0, ho1, ho2, ho3]
            refine ⟨_, .lent (hf := h5) (hd := rfl) (hr := rfl), ?_⟩
            simp (maxSteps := 4000000) only [go_sem, ho0, ho1, ho2, ho3]
            by_cases ho4 : (!withinB (k.dishes.length : Int) 1 5) = true
            · simp (maxSteps := 4000000) only [go_sem, ho0, ho1, ho2, ho3, ho4]
              refine hK _ ?_
              clear hK K
              refine z19 ?_
              refine z14 ?_
              refine ⟨rfl, ?_⟩
              rw [show (badKit k) = (true) from by simp [badKit, ho0, ho1, ho2, ho3, ho4]]
              simp (maxSteps := 4000000) only [go_sem]
              refine z13 [] ?_ ?_ rfl rfl <;> simp [lessT, lessM, lessB, AV.less]
            · simp (maxSteps := 4000000) only [go_sem, ho0, ho1, ho2, ho3, ho4]
              refine ⟨_, .lent (hf := h6) (hd := rfl) (hr := rfl), ?_⟩
              simp (maxSteps := 4000000) only [go_sem, ho0, ho1, ho2, ho3, ho4]
              by_cases ho5 : (!k.dishes.all (dishB k.allerg.length)) = true
              · simp (maxSteps := 4000000) only [go_sem, ho0, ho1, ho2, ho3, ho4, ho5]
                refine hK _ ?_
                clear hK K
                refine z19 ?_
                refine z14 ?_
                refine ⟨rfl, ?_⟩
                rw [show (badKit k) = (true) from by simp [badKit, ho0, ho1, ho2, ho3, ho4, ho5]]
                simp (maxSteps := 4000000) only [go_sem]
                refine z13 [] ?_ ?_ rfl rfl <;> simp [lessT, lessM, lessB, AV.less]
              · simp (maxSteps := 4000000) only [go_sem, ho0, ho1, ho2, ho3, ho4, ho5]
                refine ⟨_, .lent (hf := h7) (hd := rfl) (hr := rfl), ?_⟩
                simp (maxSteps := 4000000) only [go_sem, ho0, ho1, ho2, ho3, ho4, ho5]
                by_cases ho6 : (!withinB (k.days.length : Int) 1 6) = true
                · simp (maxSteps := 4000000) only [go_sem, ho0, ho1, ho2, ho3, ho4, ho5, ho6]
                  refine hK _ ?_
                  clear hK K
                  refine z19 ?_
                  refine z14 ?_
                  refine ⟨rfl, ?_⟩
                  rw [show (badKit k) = (true) from by simp [badKit, ho0, ho1, ho2, ho3, ho4, ho5, ho6]]
                  simp (maxSteps := 4000000) only [go_sem]
                  refine z13 [] ?_ ?_ rfl rfl <;> simp [lessT, lessM, lessB, AV.less]
                · simp (maxSteps := 4000000) only [go_sem, ho0, ho1, ho2, ho3, ho4, ho5, ho6]
                  refine ⟨_, .lent (hf := h8) (hd := rfl) (hr := rfl), ?_⟩
                  simp (maxSteps := 4000000) only [go_sem, ho0, ho1, ho2, ho3, ho4, ho5, ho6]
                  refine hK _ ?_
                  clear hK K
                  refine z19 ?_
                  refine z14 ?_
                  refine ⟨rfl, ?_⟩
                  rw [show (badKit k) = (!k.days.all dayB) from by simp [badKit, ho0, ho1, ho2, ho3, ho4, ho5, ho6]]
                  simp (maxSteps := 4000000) only [go_sem]
                  refine z13 [] ?_ ?_ rfl rfl <;> simp [lessT, lessM, lessB, AV.less]
  simp (maxSteps := 4000000) only [go_sem]
  repeat (first | refine nx (by first | (constructor; done) | exact .other rfl) ?_ | (refine z10 fun K hK => ?_; simp (maxSteps := 4000000) only [go_sem]; refine hK _ ?_; clear hK K))
  refine z16 rfl (fun hc => ?_) (fun hc => ?_)
  · rw [hc]
    repeat (first | refine nx (by first | (constructor; done) | exact .other rfl) ?_ | (refine z10 fun K hK => ?_; simp (maxSteps := 4000000) only [go_sem]; refine hK _ ?_; clear hK K))
    simp (maxSteps := 4000000) only [go_sem, if_true]
  · rw [hc]
    repeat (first | refine nx (by first | (constructor; done) | exact .other rfl) ?_ | (refine z10 fun K hK => ?_; simp (maxSteps := 4000000) only [go_sem]; refine hK _ ?_; clear hK K))
    simp (maxSteps := 4000000) only [go_sem, Bool.false_eq_true, if_false]
end Go.Ab
namespace Go.Ab
open Go.RowKit Go.Proofs
set_option maxHeartbeats 8000000
set_option maxRecDepth 20000
attribute [local irreducible] WalkL Walk
def badGood (a : List Int) (needs : List Int) (no : Int) (i : Nat) : Bool := decide (getI needs (i : Int) > 0) && (bAnd .i64 (getI a (i : Int)) no != 0)
def suitTo (a : List Int) (needs : List Int) (no : Int) : Nat → Bool
  | 0 => true
  | i + 1 => suitTo a needs no i && !badGood a needs no i
def noDish : Dish := ⟨[]⟩
def dishAt (k : Kitchen) (n : Int) : Dish := k.dishes.getD n.toNat noDish
def suitsB (k : Kitchen) (n : Int) (no : Int) : Bool := suitTo k.allerg (dishAt k n).needs no (dishAt k n).needs.length
theorem z281 {a needs : List Int} {no : Int} {i : Nat} (h : badGood a needs no i = true) : ∀ {m : Nat}, i < m → suitTo a needs no m = false := by
  intro m hm
  induction hm with
  | refl => rw [suitTo, h]; simp
  | step _ ih => rw [suitTo, ih]; rfl
theorem z30 {l : List Int} {i : Nat} (h : i < l.length) : (intRows l)[i]? = some [.i (getI l (i : Int))] := by
  obtain ⟨x, hx⟩ : ∃ x, l[i]? = some x := ⟨_, List.getElem?_eq_getElem h⟩
  rw [z42 hx, getI, Int.toNat_natCast, List.getD, hx]
  rfl
theorem z444 {k : Kitchen} {n : Nat} (h : n < k.dishes.length) : (dishRows k.dishes)[n]? = some [.sl (intRows (dishAt k (n : Int)).needs)] := by
  obtain ⟨x, hx⟩ : ∃ x, k.dishes[n]? = some x := ⟨_, List.getElem?_eq_getElem h⟩
  rw [z109 hx, dishAt, Int.toNat_natCast, List.getD, hx]
  rfl
structure KitGood (k : Kitchen) : Prop where
  goods : 1 ≤ k.allerg.length ∧ k.allerg.length ≤ 6
  allerg : ∀ n ∈ k.allerg, 0 ≤ n ∧ n ≤ 255
  batches : k.batches.length ≤ 10
  batch : ∀ b ∈ k.batches, (0 ≤ b.good ∧ b.good < k.allerg.length) ∧ (0 ≤ b.amount ∧ b.amount ≤ 1000000) ∧ (0 ≤ b.last ∧ b.last ≤ 30)
  dishes : 1 ≤ k.dishes.length ∧ k.dishes.length ≤ 5
  needs : ∀ d ∈ k.dishes, d.needs.length = k.allerg.length ∧ ∀ n ∈ d.needs, 0 ≤ n ∧ n ≤ 5000
  days : 1 ≤ k.days.length ∧ k.days.length ≤ 6
  groups : ∀ d ∈ k.days, d.length ≤ 3 ∧ ∀ g ∈ d, (0 ≤ g.no ∧ g.no ≤ 255) ∧ (0 ≤ g.count.lo ∧ g.count.lo ≤ g.count.hi ∧ g.count.hi ≤ 100)
theorem z115 {k : Kitchen} (h : badKit k = false) : KitGood k := by
  simp only [badKit, Bool.or_eq_false_iff, Bool.not_eq_false', decide_eq_false_iff_not, List.all_eq_true] at h
  obtain ⟨h1, h2, h3, h4, h5, h6, h7, h8⟩ := h
  have h1 := z45.1 h1
  have h5 := z45.1 h5
  have h7 := z45.1 h7
  refine ⟨by omega, fun n hn => z45.1 (h2 n hn), by omega, fun b hb => ?_, by omega, fun d hd => ?_, by omega, fun d hd => ?_⟩
  · have := h4 b hb
    simp only [batchB, Bool.and_eq_true] at this
    have q1 := z45.1 this.1
    exact ⟨by omega, z45.1 this.2.1, z45.1 this.2.2⟩
  · have := h6 d hd
    simp only [dishB, Bool.and_eq_true, beq_iff_eq, List.all_eq_true] at this
    exact ⟨by omega, fun n hn => z45.1 (this.2 n hn)⟩
  · have := h8 d hd
    simp only [dayB, Bool.and_eq_true, decide_eq_true_eq, List.all_eq_true] at this
    refine ⟨by omega, fun g hg => ?_⟩
    have := this.2 g hg
    simp only [groupB, Bool.and_eq_true, decide_eq_true_eq] at this
    exact ⟨z45.1 this.1, this.2⟩
theorem z106 {k : Kitchen} : kitE k = 0 ↔ badKit k = false := by
  unfold kitE
  cases badKit k <;> simp
theorem z268 {k : Kitchen} (hg : KitGood k) {n : Nat} (h : n < k.dishes.length) : (dishAt k (n : Int)).needs.length = k.allerg.length := by
  obtain ⟨x, hx⟩ : ∃ x, k.dishes[n]? = some x := ⟨_, List.getElem?_eq_getElem h⟩
  have : dishAt k (n : Int) = x := by rw [dishAt, Int.toNat_natCast, List.getD, hx]; rfl
  rw [this]
  exact (hg.needs x (List.mem_of_getElem? hx)).1
theorem z998 (k : Kitchen) (hg : KitGood k) (n : Nat) (no : Int) (hn : n < k.dishes.length) : Fn Try.prog 86 [.agg k.cells, .i (n : Int), .i no] (.bool (suitsB k (n : Int) no)) := by
  have gd := z444 hn
  have hl := z268 hg hn
  have hgo := hg.goods
  have hnn : ¬ ((n : Int) < 0) := by omega
  unfold suitsB
  obtain ⟨N, hN⟩ : ∃ N, N = (dishAt k (n : Int)).needs := ⟨_, rfl⟩
  rw [← hN] at gd hl ⊢
  refine z22 36 Try.call86 Try.func86 rfl (by decide) fun J => ?_
  simp (maxSteps := 4000000) only [go_sem, St.start, Try.ntmps86, Try.results86, Kitchen.cells]
  repeat (first | refine nx (by first | (constructor; done) | exact .other rfl) ?_ | (refine z10 fun K hK => ?_; simp (maxSteps := 4000000) only [go_sem, gd, hnn]; refine hK _ ?_; clear hK K))
  refine z17 (fun (i : Nat) => [(17, .d (.i (i : Int)))]) (fun _ => []) (fun i => i ≤ N.length ∧ suitTo k.allerg N no i = true) (fun i => N.length - i) 0 ?_ ⟨Nat.zero_le _, rfl⟩ ?_
  · simp (maxSteps := 4000000) only [go_sem]
    refine z13 [] ?_ ?_ rfl rfl <;> simp [lessT, lessM, lessB, AV.less]
  · rintro i ⟨hi, hs⟩
    simp (maxSteps := 4000000) only [go_sem]
    repeat (first | refine nx (by first | (constructor; done) | exact .other rfl) ?_ | (refine z10 fun K hK => ?_; simp (maxSteps := 4000000) only [go_sem]; refine hK _ ?_; clear hK K))
    refine z16 rfl (fun hb => ?_) (fun hb => ?_)
    · have hlt : i < N.length := by simpa using hb
      have hw : IntKind.i64.wrap ((i : Int) + 1) = ((i + 1 : Nat) : Int) := by rw [z20 (by omega)]; simp
      have g1 := z30 hlt
      have g2 := z30 (l := k.allerg) (i := i) (by omega)
      have hni : ¬ ((i : Int) < 0) := by omega
      cases q1 : decide (getI N (i : Int) > 0)
      · have hbg : badGood k.allerg N no i = false := by rw [badGood, q1]; rfl
        repeat (first | refine z12 rfl ?_ | refine z11 rfl ?_ | refine nx (by first | (constructor; done) | exact .other rfl) ?_ | (refine z10 fun K hK => ?_; simp (maxSteps := 4000000) only [go_sem, g1, q1, hw]; refine hK _ ?_; clear hK K))
        refine ⟨rfl, i + 1, ?_, ⟨hlt, by rw [suitTo, hs, hbg]; rfl⟩, by omega⟩
        refine z13 [] ?_ ?_ rfl rfl <;> simp [lessT, lessM, lessB, AV.less]
      · cases q2 : (bAnd .i64 (getI k.allerg (i : Int)) no != 0)
        · have hbg : badGood k.allerg N no i = false := by rw [badGood, q2, Bool.and_false]
          repeat (first | refine z12 rfl ?_ | refine z11 rfl ?_ | refine nx (by first | (constructor; done) | exact .other rfl) ?_ | (refine z10 fun K hK => ?_; simp (maxSteps := 4000000) only [go_sem, g1, g2, q1, q2, hni, hw]; refine hK _ ?_; clear hK K))
          refine ⟨rfl, i + 1, ?_, ⟨hlt, by rw [suitTo, hs, hbg]; rfl⟩, by omega⟩
          refine z13 [] ?_ ?_ rfl rfl <;> simp [lessT, lessM, lessB, AV.less]
        · have hbg : badGood k.allerg N no i = true := by rw [badGood, q1, q2]; rfl
          rw [z281 hbg hlt]
          repeat (first | refine z12 rfl ?_ | refine z11 rfl ?_ | refine nx (by first | (constructor; done) | exact .other rfl) ?_ | (refine z10 fun K hK => ?_; simp (maxSteps := 4000000) only [go_sem, g1, g2, q1, q2, hni]; refine hK _ ?_; clear hK K))
          simp (maxSteps := 4000000) only [go_sem]
    · have he : i = N.length := by (have : ¬ i < N.length := by simpa using hb); omega
      subst he
      rw [hs]
      repeat (first | refine nx (by first | (constructor; done) | exact .other rfl) ?_ | (refine z10 fun K hK => ?_; simp (maxSteps := 4000000) only [go_sem]; refine hK _ ?_; clear hK K))
      simp (maxSteps := 4000000) only [go_sem]
def menuB (k : Kitchen) (n : Int) (g : Diners) : Bool := withinB n 0 ((k.dishes.length : Int) - 1) && suitsB k n g.no
theorem z1025 (k : Kitchen) (hg : KitGood k) (n : Int) (g : Diners) : Fn Try.prog 83 [.agg k.cells, .i n, .agg g.row] (.bool (menuB k n g)) := by
  have hd := hg.dishes
  have h1 := z848 n 0 ((k.dishes.length : Int) - 1)
  have w : IntKind.i64.wrap ((k.dishes.length : Int) - 1) = (k.dishes.length : Int) - 1 := z20 (by omega)
  unfold menuB
  cases q : withinB n 0 ((k.dishes.length : Int) - 1)
  · rw [q] at h1
    refine z22 21 Try.call83 Try.func83 rfl (by decide) fun J => ?_
    simp (maxSteps := 4000000) only [go_sem, St.start, Try.ntmps83, Try.results83, Kitchen.cells, Diners.row]
    repeat (first | refine nx (by first | (constructor; done) | exact .other rfl) ?_ | (refine z10 fun K hK => ?_; simp (maxSteps := 4000000) only [go_sem, w]; (repeat (first | (refine ⟨_, .lent (hf := h1) (hd := rfl) (hr := rfl), ?_⟩; simp (maxSteps := 4000000) only [go_sem, w]) | (refine ⟨_, .given (hf := h1) (hd := rfl) (ha := rfl), ?_⟩; simp (maxSteps := 4000000) only [go_sem, w]))); refine hK _ ?_; clear hK K))
    simp (maxSteps := 4000000) only [go_sem, Bool.false_and]
  · rw [q] at h1
    have r := z45.1 q
    obtain ⟨m, rfl⟩ : ∃ m : Nat, n = m := ⟨n.toNat, by omega⟩
    have h2 := z998 k hg m g.no (by omega)
    rw [Kitchen.cells] at h2
    refine z22 21 Try.call83 Try.func83 rfl (by decide) fun J => ?_
    simp (maxSteps := 4000000) only [go_sem, St.start, Try.ntmps83, Try.results83, Kitchen.cells, Diners.row]
    repeat (first | refine nx (by first | (constructor; done) | exact .other rfl) ?_ | (refine z10 fun K hK => ?_; simp (maxSteps := 4000000) only [go_sem, w]; (repeat (first | (refine ⟨_, .lent (hf := h1) (hd := rfl) (hr := rfl), ?_⟩; simp (maxSteps := 4000000) only [go_sem, w]) | (refine ⟨_, .lent (hf := h2) (hd := rfl) (hr := rfl), ?_⟩; simp (maxSteps := 4000000) only [go_sem, w]) | (refine ⟨_, .given (hf := h1) (hd := rfl) (ha := rfl), ?_⟩; simp (maxSteps := 4000000) only [go_sem, w]) | (refine ⟨_, .given (hf := h2) (hd := rfl) (ha := rfl), ?_⟩; simp (maxSteps := 4000000) only [go_sem, w]))); refine hK _ ?_; clear hK K))
    simp (maxSteps := 4000000) only [go_sem, Bool.true_and]
def rowOk (q : Int → Diners → Bool) : List Int → List Diners → Bool
  | [], [] => true
  | n :: l, g :: gs => q n g && rowOk q l gs
  | _, _ => false
def shapedB (q : Int → Diners → Bool) : List (List Int) → List (List Diners) → Bool
  | [], [] => true
  | r :: l, d :: ds => rowOk q r d && shapedB q l ds
  | _, _ => false
theorem z73 {q : Int → Diners → Bool} : ∀ {l : List Int} {d : List Diners}, rowOk q l d = true → l.length = d.length
  | [], [], _ => rfl
  | _ :: l, _ :: d, h => by
    rw [rowOk, Bool.and_eq_true] at h
    simp [z73 h.2]
  | [], _ :: _, h => by cases h
  | _ :: _, [], h => by cases h
theorem z46 {q : Int → Diners → Bool} : ∀ {l : List (List Int)} {d : List (List Diners)}, shapedB q l d = true → l.length = d.length
  | [], [], _ => rfl
  | _ :: l, _ :: d, h => by
    rw [shapedB, Bool.and_eq_true] at h
    simp [z46 h.2]
  | [], _ :: _, h => by cases h
  | _ :: _, [], h => by cases h
theorem z981 (k : Kitchen) (hg : KitGood k) (M : List (List Int)) (hM : M.length < 2 ^ 30) (hMr : ∀ r ∈ M, r.length < 2 ^ 30) : Fn Try.prog 52 [.agg k.cells, .sl (listRows M), .bnd 83 [.agg k.cells]] (.bool (shapedB (menuB k) M k.days)) := by
  have hdd := hg.days
  have hgr := hg.groups
  obtain ⟨q, hq⟩ : ∃ q, q = menuB k := ⟨_, rfl⟩
  have h137 := fun (n : Int) (g : Diners) => z1025 k hg n g
  simp only [← hq] at h137
  rw [← hq]
  rw [Kitchen.cells] at h137
  obtain ⟨R, hR⟩ : ∃ R, R = shapedB q M k.days := ⟨_, rfl⟩
  rw [← hR]
  cases q1 : ((M.length : Int) != (k.days.length : Int))
  · have hl : M.length = k.days.length := by
      simp only [bne_eq_false_iff_eq] at q1
      omega
    refine z22 55 Try.call52 Try.func52 rfl (by decide) fun J => ?_
    simp (maxSteps := 4000000) only [go_sem, St.start, Try.ntmps52, Try.results52, Kitchen.cells]
    repeat (first | refine z12 rfl ?_ | refine z11 rfl ?_ | refine nx (by first | (constructor; done) | exact .other rfl) ?_ | (refine z10 fun K hK => ?_; simp (maxSteps := 4000000) only [go_sem, q1]; refine hK _ ?_; clear hK K))
    refine z17 (fun (i : Nat) => [(22, .d (.i (i : Int)))]) (fun _ => []) (fun i => i ≤ k.days.length ∧ R = shapedB q (M.drop i) (k.days.drop i)) (fun i => k.days.length - i) 0 ?_ ⟨Nat.zero_le _, hR⟩ ?_
    · simp (maxSteps := 4000000) only [go_sem]
      refine z13 [] ?_ ?_ rfl rfl <;> simp [lessT, lessM, lessB, AV.less]
    · rintro i ⟨hi, hRi⟩
      simp (maxSteps := 4000000) only [go_sem]
      repeat (first | refine nx (by first | (constructor; done) | exact .other rfl) ?_ | (refine z10 fun K hK => ?_; simp (maxSteps := 4000000) only [go_sem]; refine hK _ ?_; clear hK K))
      refine z16 rfl (fun hb => ?_) (fun hb => ?_)
      · have hlt : i < k.days.length := by simpa using hb
        have hw : IntKind.i64.wrap ((i : Int) + 1) = ((i + 1 : Nat) : Int) := by rw [z20 (by omega)]; simp
        obtain ⟨d, hd⟩ : ∃ d, k.days[i]? = some d := ⟨_, List.getElem?_eq_getElem hlt⟩
        obtain ⟨r, hr⟩ : ∃ r, M[i]? = some r := ⟨_, List.getElem?_eq_getElem (by omega)⟩
        have g1 := z69 hd
        have g2 := z35 hr
        have hni : ¬ ((i : Int) < 0) := by omega
        have hd3 := (hgr d (List.mem_of_getElem? hd)).1
        rw [z34 hd, z34 hr, shapedB] at hRi
        cases q2 : ((r.length : Int) != (d.length : Int))
        · have hrl : r.length = d.length := by
            simp only [bne_eq_false_iff_eq] at q2
            omega
          repeat (first | refine z12 rfl ?_ | refine z11 rfl ?_ | refine nx (by first | (constructor; done) | exact .other rfl) ?_ | (refine z10 fun K hK => ?_; simp (maxSteps := 4000000) only [go_sem, g1, g2, hni, q2]; refine hK _ ?_; clear hK K))
          refine z17 (fun (j : Nat) => [(37, .d (.i (j : Int)))]) (fun _ => []) (fun j => j ≤ d.length ∧ R = (rowOk q (r.drop j) (d.drop j) && shapedB q (M.drop (i + 1)) (k.days.drop (i + 1)))) (fun j => d.length - j) 0 ?_ ⟨Nat.zero_le _, hRi⟩ ?_
          · simp (maxSteps := 4000000) only [go_sem]
            refine z13 [] ?_ ?_ rfl rfl <;> simp [lessT, lessM, lessB, AV.less]
          · rintro j ⟨hj, hRj⟩
            simp (maxSteps := 4000000) only [go_sem]
            repeat (first | refine nx (by first | (constructor; done) | exact .other rfl) ?_ | (refine z10 fun K hK => ?_; simp (maxSteps := 4000000) only [go_sem]; refine hK _ ?_; clear hK K))
            refine z16 rfl (fun hb => ?_) (fun hb => ?_)
            · have hltj : j < d.length := by simpa using hb
              have hwj : IntKind.i64.wrap ((j : Int) + 1) = ((j + 1 : Nat) : Int) := by rw [z20 (by omega)]; simp
              obtain ⟨g, hgj⟩ : ∃ g, d[j]? = some g := ⟨_, List.getElem?_eq_getElem hltj⟩
              obtain ⟨n, hnj⟩ : ∃ n, r[j]? = some n := ⟨_, List.getElem?_eq_getElem (by omega)⟩
              have g3 := z68 hgj
              have g4 := z42 hnj
              rw [Diners.row] at g3
              have hnjj : ¬ ((j : Int) < 0) := by omega
              have hc := h137 n g
              rw [Diners.row] at hc
              rw [z34 hgj, z34 hnj, rowOk] at hRj
              cases q3 : q n g
              · rw [q3] at hRj hc
                rw [Bool.false_and, Bool.false_and] at hRj
                rw [hRj]
                repeat (first | refine nx (by first | (constructor; done) | exact .other rfl) ?_ | (refine z10 fun K hK => ?_; simp (maxSteps := 4000000) only [go_sem, g3]; refine hK _ ?_; clear hK K))
                refine z21 (by kernel_rfl) (by kernel_rfl) fun K hK => ?_
                simp (maxSteps := 4000000) only [go_sem, g2, g4, hni, hnjj]
                refine ⟨_, .fn (hf := hc) (hd := rfl) (hr := .inl rfl), ?_⟩
                simp (maxSteps := 4000000) only [go_sem]
                refine ⟨by kernel_rfl, hK _ ?_⟩
                clear hK K
                repeat (first | refine z12 rfl ?_ | refine z11 rfl ?_ | refine nx (by first | (constructor; done) | exact .other rfl) ?_ | (refine z10 fun K hK => ?_; simp (maxSteps := 4000000) only [go_sem]; refine hK _ ?_; clear hK K))
                simp (maxSteps := 4000000) only [go_sem]
              · rw [q3] at hRj hc
                rw [Bool.true_and] at hRj
                repeat (first | refine nx (by first | (constructor; done) | exact .other rfl) ?_ | (refine z10 fun K hK => ?_; simp (maxSteps := 4000000) only [go_sem, g3]; refine hK _ ?_; clear hK K))
                refine z21 (by kernel_rfl) (by kernel_rfl) fun K hK => ?_
                simp (maxSteps := 4000000) only [go_sem, g2, g4, hni, hnjj]
                refine ⟨_, .fn (hf := hc) (hd := rfl) (hr := .inl rfl), ?_⟩
                simp (maxSteps := 4000000) only [go_sem]
                refine ⟨by kernel_rfl, hK _ ?_⟩
                clear hK K
                repeat (first | refine z12 rfl ?_ | refine z11 rfl ?_ | refine nx (by first | (constructor; done) | exact .other rfl) ?_ | (refine z10 fun K hK => ?_; simp (maxSteps := 4000000) only [go_sem, hwj]; refine hK _ ?_; clear hK K))
                refine ⟨rfl, j + 1, ?_, ⟨hltj, hRj⟩, by omega⟩
                refine z13 [] ?_ ?_ rfl rfl <;> simp [lessT, lessM, lessB, AV.less]
            · have he : j = d.length := by (have : ¬ j < d.length := by simpa using hb); omega
              subst he
              rw [List.drop_length, ← hrl, List.drop_length, rowOk, Bool.true_and] at hRj
              repeat (first | refine nx (by first | (constructor; done) | exact .other rfl) ?_ | (refine z10 fun K hK => ?_; simp (maxSteps := 4000000) only [go_sem, hw]; refine hK _ ?_; clear hK K))
              refine ⟨rfl, i + 1, ?_, ⟨hlt, hRj⟩, by omega⟩
              refine z13 [] ?_ ?_ rfl rfl <;> simp [lessT, lessM, lessB, AV.less]
        · have hf : rowOk q r d = false := by
            cases hx : rowOk q r d with
            | false => rfl
            | true =>
              have := z73 hx
              rw [this] at q2
              simp at q2
          rw [hf, Bool.false_and] at hRi
          rw [hRi]
          repeat (first | refine z12 rfl ?_ | refine z11 rfl ?_ | refine nx (by first | (constructor; done) | exact .other rfl) ?_ | (refine z10 fun K hK => ?_; simp (maxSteps := 4000000) only [go_sem, g1, g2, hni, q2]; refine hK _ ?_; clear hK K))
          simp (maxSteps := 4000000) only [go_sem]
      · have he : i = k.days.length := by (have : ¬ i < k.days.length := by simpa using hb); omega
        subst he
        rw [List.drop_length, ← hl, List.drop_length, shapedB] at hRi
        rw [hRi]
        repeat (first | refine nx (by first | (constructor; done) | exact .other rfl) ?_ | (refine z10 fun K hK => ?_; simp (maxSteps := 4000000) only [go_sem]; refine hK _ ?_; clear hK K))
        simp (maxSteps := 4000000) only [go_sem]
  · have hf : R = false := by
      rw [hR]
      cases hx : shapedB q M k.days with
      | false => rfl
      | true =>
        have := z46 hx
        rw [this] at q1
        simp at q1
    rw [hf]
    refine z22 55 Try.call52 Try.func52 rfl (by decide) fun J => ?_
    simp (maxSteps := 4000000) only [go_sem, St.start, Try.ntmps52, Try.results52, Kitchen.cells]
    repeat (first | refine z12 rfl ?_ | refine z11 rfl ?_ | refine nx (by first | (constructor; done) | exact .other rfl) ?_ | (refine z10 fun K hK => ?_; simp (maxSteps := 4000000) only [go_sem, q1]; refine hK _ ?_; clear hK K))
    simp (maxSteps := 4000000) only [go_sem]
def openK (k : Kitchen) (M : List (List Int)) : Int := if kitE k = 0 then (if shapedB (menuB k) M k.days then 0 else 71) else kitE k
theorem z983 (k : Kitchen) (M : List (List Int)) (hs : KitSmall k) (hM : M.length < 2 ^ 30) (hMr : ∀ r ∈ M, r.length < 2 ^ 30) : Fn Try.prog 48 [.agg k.cells, .sl (listRows M)] (.tup [.agg k.cells, .i (openK k M)]) := by
  have h135 := z971 k hs
  unfold openK
  rw [Kitchen.cells] at h135
  by_cases h0 : kitE k = 0
  · rw [if_pos h0]
    rw [h0] at h135
    have h136 := z981 k (z115 (z106.1 h0)) M hM hMr
    rw [Kitchen.cells] at h136
    cases q : shapedB (menuB k) M k.days
    · rw [q] at h136
      refine z22 24 Try.call48 Try.func48 rfl (by decide) fun J => ?_
      simp (maxSteps := 4000000) only [go_sem, St.start, Try.ntmps48, Try.results48, Kitchen.cells]
      repeat (first | refine z12 rfl ?_ | refine z11 rfl ?_ | refine nx (by first | (constructor; done) | exact .other rfl) ?_ | (refine z10 fun K hK => ?_; simp (maxSteps := 4000000) only [go_sem]; (repeat (first | (refine ⟨_, .lent (hf := h135) (hd := rfl) (hr := rfl), ?_⟩; simp (maxSteps := 4000000) only [go_sem]) | (refine ⟨_, .lent (hf := h136) (hd := rfl) (hr := rfl), ?_⟩; simp (maxSteps := 4000000) only [go_sem]) | (refine ⟨_, .given (hf := h135) (hd := rfl) (ha := rfl), ?_⟩; simp (maxSteps := 4000000) only [go_sem]) | (refine ⟨_, .given (hf := h136) (hd := rfl) (ha := rfl), ?_⟩; simp (maxSteps := 4000000) only [go_sem]))); refine hK _ ?_; clear hK K))
      simp (maxSteps := 4000000) only [go_sem]
    · rw [q] at h136
      refine z22 24 Try.call48 Try.func48 rfl (by decide) fun J => ?_
      simp (maxSteps := 4000000) only [go_sem, St.start, Try.ntmps48, Try.results48, Kitchen.cells]
      repeat (first | refine z12 rfl ?_ | refine z11 rfl ?_ | refine nx (by first | (constructor; done) | exact .other rfl) ?_ | (refine z10 fun K hK => ?_; simp (maxSteps := 4000000) only [go_sem]; (repeat (first | (refine ⟨_, .lent (hf := h135) (hd := rfl) (hr := rfl), ?_⟩; simp (maxSteps := 4000000) only [go_sem]) | (refine ⟨_, .lent (hf := h136) (hd := rfl) (hr := rfl), ?_⟩; simp (maxSteps := 4000000) only [go_sem]) | (refine ⟨_, .given (hf := h135) (hd := rfl) (ha := rfl), ?_⟩; simp (maxSteps := 4000000) only [go_sem]) | (refine ⟨_, .given (hf := h136) (hd := rfl) (ha := rfl), ?_⟩; simp (maxSteps := 4000000) only [go_sem]))); refine hK _ ?_; clear hK K))
      simp (maxSteps := 4000000) only [go_sem]
  · rw [if_neg h0]
    have hz : (kitE k != 0) = true := by simpa using h0
    obtain ⟨e, he⟩ : ∃ e, e = kitE k := ⟨_, rfl⟩
    rw [← he] at h135 hz ⊢
    refine z22 24 Try.call48 Try.func48 rfl (by decide) fun J => ?_
    simp (maxSteps := 4000000) only [go_sem, St.start, Try.ntmps48, Try.results48, Kitchen.cells]
    repeat (first | refine z12 rfl ?_ | refine z11 rfl ?_ | refine nx (by first | (constructor; done) | exact .other rfl) ?_ | (refine z10 fun K hK => ?_; simp (maxSteps := 4000000) only [go_sem, hz]; (repeat (first | (refine ⟨_, .lent (hf := h135) (hd := rfl) (hr := rfl), ?_⟩; simp (maxSteps := 4000000) only [go_sem, hz]) | (refine ⟨_, .given (hf := h135) (hd := rfl) (ha := rfl), ?_⟩; simp (maxSteps := 4000000) only [go_sem, hz]))); refine hK _ ?_; clear hK K))
    simp (maxSteps := 4000000) only [go_sem]
end Go.Ab
namespace Go.Ab
open Go.RowKit Go.Proofs
set_option maxHeartbeats 8000000
set_option maxRecDepth 20000
attribute [local irreducible] WalkL Walk
def cmpI (a b : Int) : Int := if a < b then -1 else if a > b then 1 else 0
theorem z955 (n : Int) : Fn Try.prog 100 [.i n] (.bool false) := by
  have q : (n != n) = false := by simp
  refine z22 6 Try.call100 Try.func100 rfl (by decide) fun J => ?_
  simp (maxSteps := 4000000) only [go_sem, St.start, Try.ntmps100, Try.results100]
  repeat (first | refine nx (by first | (constructor; done) | exact .other rfl) ?_ | (refine z10 fun K hK => ?_; simp (maxSteps := 4000000) only [go_sem, q]; refine hK _ ?_; clear hK K))
  simp (maxSteps := 4000000) only [go_sem]
theorem z1026 (a b : Int) : Fn Try.prog 82 [.i a, .i b] (.i (cmpI a b)) := by
  have h1 := z955 a
  have h2 := z955 b
  unfold cmpI
  by_cases q1 : a < b
  · rw [if_pos q1]
    have d : decide (a < b) = true := decide_eq_true q1
    refine z22 20 Try.call82 Try.func82 rfl (by decide) fun J => ?_
    simp (maxSteps := 4000000) only [go_sem, St.start, Try.ntmps82, Try.results82]
    repeat (first | refine z12 rfl ?_ | refine z11 rfl ?_ | refine nx (by first | (constructor; done) | exact .other rfl) ?_ | (refine z10 fun K hK => ?_; simp (maxSteps := 4000000) only [go_sem, d]; (repeat (first | (refine ⟨_, .lent (hf := h1) (hd := rfl) (hr := rfl), ?_⟩; simp (maxSteps := 4000000) only [go_sem, d]) | (refine ⟨_, .lent (hf := h2) (hd := rfl) (hr := rfl), ?_⟩; simp (maxSteps := 4000000) only [go_sem, d]) | (refine ⟨_, .given (hf := h1) (hd := rfl) (ha := rfl), ?_⟩; simp (maxSteps := 4000000) only [go_sem, d]) | (refine ⟨_, .given (hf := h2) (hd := rfl) (ha := rfl), ?_⟩; simp (maxSteps := 4000000) only [go_sem, d]))); refine hK _ ?_; clear hK K))
    simp (maxSteps := 4000000) only [go_sem]
  · rw [if_neg q1]
    have d : decide (a < b) = false := decide_eq_false q1
    by_cases q2 : a > b
    · rw [if_pos q2]
      have d2 : decide (a > b) = true := decide_eq_true q2
      refine z22 20 Try.call82 Try.func82 rfl (by decide) fun J => ?_
      simp (maxSteps := 4000000) only [go_sem, St.start, Try.ntmps82, Try.results82]
      repeat (first | refine z12 rfl ?_ | refine z11 rfl ?_ | refine nx (by first | (constructor; done) | exact .other rfl) ?_ | (refine z10 fun K hK => ?_; simp (maxSteps := 4000000) only [go_sem, d, d2]; (repeat (first | (refine ⟨_, .lent (hf := h1) (hd := rfl) (hr := rfl), ?_⟩; simp (maxSteps := 4000000) only [go_sem, d, d2]) | (refine ⟨_, .lent (hf := h2) (hd := rfl) (hr := rfl), ?_⟩; simp (maxSteps := 4000000) only [go_sem, d, d2]) | (refine ⟨_, .given (hf := h1) (hd := rfl) (ha := rfl), ?_⟩; simp (maxSteps := 4000000) only [go_sem, d, d2]) | (refine ⟨_, .given (hf := h2) (hd := rfl) (ha := rfl), ?_⟩; simp (maxSteps := 4000000) only [go_sem, d, d2]))); refine hK _ ?_; clear hK K))
      simp (maxSteps := 4000000) only [go_sem]
    · rw [if_neg q2]
      have d2 : decide (a > b) = false := decide_eq_false q2
      refine z22 20 Try.call82 Try.func82 rfl (by decide) fun J => ?_
      simp (maxSteps := 4000000) only [go_sem, St.start, Try.ntmps82, Try.results82]
      repeat (first | refine z12 rfl ?_ | refine z11 rfl ?_ | refine nx (by first | (constructor; done) | exact .other rfl) ?_ | (refine z10 fun K hK => ?_; simp (maxSteps := 4000000) only [go_sem, d, d2]; (repeat (first | (refine ⟨_, .lent (hf := h1) (hd := rfl) (hr := rfl), ?_⟩; simp (maxSteps := 4000000) only [go_sem, d, d2]) | (refine ⟨_, .lent (hf := h2) (hd := rfl) (hr := rfl), ?_⟩; simp (maxSteps := 4000000) only [go_sem, d, d2]) | (refine ⟨_, .given (hf := h1) (hd := rfl) (ha := rfl), ?_⟩; simp (maxSteps := 4000000) only [go_sem, d, d2]) | (refine ⟨_, .given (hf := h2) (hd := rfl) (ha := rfl), ?_⟩; simp (maxSteps := 4000000) only [go_sem, d, d2]))); refine hK _ ?_; clear hK K))
      simp (maxSteps := 4000000) only [go_sem]
def noBatch : Batch := ⟨0, 0, 0⟩
def batAt (k : Kitchen) (i : Nat) : Batch := k.batches.getD i noBatch
theorem z149 {k : Kitchen} {i : Nat} (h : i < k.batches.length) : (batRows k.batches)[i]? = some (batAt k i).row := by
  obtain ⟨x, hx⟩ : ∃ x, k.batches[i]? = some x := ⟨_, List.getElem?_eq_getElem h⟩
  rw [z240 hx, batAt, List.getD, hx]
  rfl
theorem z1027 (k : Kitchen) (a b : Nat) (ha : a < k.batches.length) (hb : b < k.batches.length) : Fn Try.prog 81 [.i (a : Int), .i (b : Int), .ptr k.cells 0] (.i (cmpI (batAt k a).last (batAt k b).last)) := by
  have h := z1026 (batAt k a).last (batAt k b).last
  have ga := z149 ha
  have gb := z149 hb
  have na : ¬ ((a : Int) < 0) := by omega
  have nb : ¬ ((b : Int) < 0) := by omega
  rw [Batch.row] at ga gb
  refine z22 21 Try.call81 Try.func81 rfl (by decide) fun J => ?_
  simp (maxSteps := 4000000) only [go_sem, St.start, Try.ntmps81, Try.results81, Kitchen.cells]
  repeat (first | refine nx (by first | (constructor; done) | exact .other rfl) ?_ | (refine z10 fun K hK => ?_; simp (maxSteps := 4000000) only [go_sem]; refine hK _ ?_; clear hK K))
  refine z21 (by kernel_rfl) (by kernel_rfl) fun K hK => ?_
  simp (maxSteps := 4000000) only [go_sem, ga, gb, na, nb]
  refine ⟨_, .fn (hf := h) (hd := rfl) (hr := .inl rfl), ?_⟩
  simp (maxSteps := 4000000) only [go_sem]
  refine ⟨by kernel_rfl, hK _ ?_⟩
  clear hK K
  repeat (first | refine nx (by first | (constructor; done) | exact .other rfl) ?_ | (refine z10 fun K hK => ?_; simp (maxSteps := 4000000) only [go_sem]; refine hK _ ?_; clear hK K))
  simp (maxSteps := 4000000) only [go_sem]
def swapN (L : List Nat) (j : Nat) : List Nat := (L.set (j + 1) (L.getD j 0)).set j (L.getD (j + 1) 0)
def sinkN (f : Nat → Int) : List Nat → Nat → List Nat
  | L, 0 => L
  | L, j + 1 => if f (L.getD (j + 1) 0) < f (L.getD j 0) then sinkN f (swapN L j) j else L
def insN (f : Nat → Int) (L : List Nat) : Nat → List Nat
  | 0 => L
  | i + 1 => sinkN f (insN f L i) (i + 1)
def natRows (L : List Nat) : List (List DV) := L.map fun (n : Nat) => [DV.i (n : Int)]
theorem z647 (L : List Nat) : (natRows L).length = L.length := by simp [natRows]
theorem z511 (L : List Nat) : headIs 1 (natRows L) = true := by cases L <;> rfl
theorem z97 {L : List Nat} {i : Nat} (h : i < L.length) : (natRows L)[i]? = some [.i ((L.getD i 0 : Nat) : Int)] := by
  obtain ⟨x, hx⟩ : ∃ x, L[i]? = some x := ⟨_, List.getElem?_eq_getElem h⟩
  rw [natRows, List.getElem?_map, hx, List.getD, hx]
  rfl
theorem z289 (L : List Nat) (i x : Nat) : (natRows L).set i [.i (x : Int)] = natRows (L.set i x) := by simp [natRows, List.map_set]
attribute [go_sem] z647 z511
theorem z276 (L : List Nat) (j : Nat) : (swapN L j).length = L.length := by simp [swapN]
theorem z482 {L : List Nat} {j : Nat} (hj : j + 1 < L.length) {x : Nat} (h : x ∈ swapN L j) : x ∈ L := by
  have g1 : L.getD j 0 ∈ L := by
    rw [List.getD, List.getElem?_eq_getElem (by omega)]
    exact List.getElem_mem _
  have g2 : L.getD (j + 1) 0 ∈ L := by
    rw [List.getD, List.getElem?_eq_getElem hj]
    exact List.getElem_mem _
  rcases List.mem_or_eq_of_mem_set h with h | h
  · rcases List.mem_or_eq_of_mem_set h with h | h
    · exact h
    · rw [h]; exact g1
  · rw [h]; exact g2
theorem z487 (f : Nat → Int) : ∀ (j : Nat) (L : List Nat), (sinkN f L j).length = L.length
  | 0, _ => rfl
  | j + 1, L => by
    rw [sinkN]
    split
    · rw [z487 f j, z276]
    · rfl
theorem z486 (f : Nat → Int) : ∀ (j : Nat) (L : List Nat), j < L.length → ∀ x ∈ sinkN f L j, x ∈ L
  | 0, _, _, _, h => h
  | j + 1, L, hj, x, h => by
    rw [sinkN] at h
    split at h
    · exact z482 hj (z486 f j _ (by rw [z276]; omega) x h)
    · exact h
theorem z265 (f : Nat → Int) (L : List Nat) : ∀ i, (insN f L i).length = L.length
  | 0 => rfl
  | i + 1 => by rw [insN, z487, z265 f L i]
theorem z437 (f : Nat → Int) (L : List Nat) : ∀ i, i < L.length ∨ i = 0 → ∀ x ∈ insN f L i, x ∈ L
  | 0, _, _, h => h
  | i + 1, hi, x, h => z437 f L i (by omega) x (z486 f (i + 1) _ (by rw [z265]; omega) x h)
def ordK (k : Kitchen) : List Nat := insN (fun i => (batAt k i).last) (List.range k.batches.length) (k.batches.length - 1)
theorem z91 (k : Kitchen) : (ordK k).length = k.batches.length := by rw [ordK, z265, List.length_range]
theorem z47 {k : Kitchen} {x : Nat} (h : x ∈ ordK k) : x < k.batches.length := List.mem_range.1 (z437 _ _ _ (by rw [List.length_range]; omega) x h)
theorem z988 (k : Kitchen) (L : List Nat) (hL : ∀ x ∈ L, x < k.batches.length) (hl : L.length < 2 ^ 30) :
    FnG Try.prog 107 [.arr 3 1 (natRows L)] [0] [.own 0, .d (.i 0), .d (.i (L.length : Int)), .d (.fn 81 [.ptr k.cells 0])] (.tup []) [.arr 3 1 (natRows (insN (fun i => (batAt k i).last) L (L.length - 1)))] := by
  obtain ⟨f, hf⟩ : ∃ f : Nat → Int, f = fun i => (batAt k i).last := ⟨_, rfl⟩
  rw [← hf]
  have hcmp := fun a b ha hb => z1027 k a b ha hb
  have e1 : IntKind.i64.wrap (0 + 1) = ((0 + 1 : Nat) : Int) := by decide
  rw [Kitchen.cells] at hcmp
  rw [Kitchen.cells]
  have hcm : ∀ a b : Int, decide (cmpI a b < 0) = decide (a < b) := fun a b => by
    unfold cmpI
    split
    · simp [*]
    · split <;> simp [*]
  refine z62 53 Try.call107 Try.func107 rfl (by decide) [] [(0, 0)] (by simp only [List.length_cons, List.length_nil]; decide) (by kernel_rfl) fun J => ?_
  simp (maxSteps := 4000000) only [go_sem, St.startG, Try.ntmps107, Try.results107, List.map_cons, List.map_nil, List.range_succ]
  repeat (first | refine nx (by first | (constructor; done) | exact .other rfl) ?_ | (refine z10 fun K hK => ?_; simp (maxSteps := 4000000) only [go_sem, e1]; refine hK _ ?_; clear hK K))
  refine z17 (fun (a : Nat) => [(8, .d (.i ((a + 1 : Nat) : Int)))]) (fun a => [(53, some (.arr 3 1 (natRows (insN f L a))))]) (fun a => a = 0 ∨ a + 1 ≤ L.length) (fun a => L.length - a) 0 ?_ (.inl rfl) ?_
  · simp (maxSteps := 4000000) only [go_sem, insN]
    refine z13 [] ?_ ?_ rfl rfl <;> simp [lessT, lessM, lessB, AV.less]
    all_goals first | done | rfl
  · intro a ha
    have hAl := z265 f L a
    have hAm := z437 f L a (by omega)
    simp (maxSteps := 4000000) only [go_sem]
    repeat (first | refine nx (by first | (constructor; done) | exact .other rfl) ?_ | (refine z10 fun K hK => ?_; simp (maxSteps := 4000000) only [go_sem]; refine hK _ ?_; clear hK K))
    refine z16 rfl (fun hb => ?_) (fun hb => ?_)
    · have hlt : a + 1 < L.length := by have := of_decide_eq_true hb; omega
      have hw : IntKind.i64.wrap (((a + 1 : Nat) : Int) + 1) = ((a + 1 + 1 : Nat) : Int) := by rw [z20 (by omega)]; omega
      obtain ⟨A, hA⟩ : ∃ A, A = insN f L a := ⟨_, rfl⟩
      have hnx : insN f L (a + 1) = sinkN f A (a + 1) := by rw [insN, hA]
      rw [← hA] at hAl hAm ⊢
      repeat (first | refine nx (by first | (constructor; done) | exact .other rfl) ?_ | (refine z10 fun K hK => ?_; simp (maxSteps := 4000000) only [go_sem]; refine hK _ ?_; clear hK K))
      refine z17 (fun (q : Nat × List Nat) => [(9, .d (.i (q.1 : Int)))]) (fun q => [(53, some (.arr 3 1 (natRows q.2)))]) (fun q => q.1 ≤ a + 1 ∧ q.2.length = L.length ∧ (∀ x ∈ q.2, x < k.batches.length) ∧ sinkN f q.2 q.1 = sinkN f A (a + 1)) (fun q => q.1) (a + 1, A) ?_ ⟨Nat.le_refl _, hAl, fun x hx => hL x (hAm x hx), rfl⟩ ?_
      · simp (maxSteps := 4000000) only [go_sem]
        refine z13 [] ?_ ?_ rfl rfl <;> simp [lessT, lessM, lessB, AV.less]
        all_goals first | done | rfl
      · rintro ⟨j, cur⟩ ⟨hj, hcl, hcx, hsk⟩
        dsimp only at hj hcl hcx hsk
        have fin : ∀ X : List Nat, X = sinkN f A (a + 1) → natRows X = natRows (insN f L (a + 1)) := fun X h => by rw [hnx, h]
        cases j with
        | zero =>
          have hX : cur = insN f L (a + 1) := by rw [hnx, ← hsk]; rfl
          have d0 : decide ((0 : Int) > 0) = false := rfl
          simp (maxSteps := 4000000) only [go_sem]
          repeat (first | refine nx (by first | (constructor; done) | exact .other rfl) ?_ | (refine z10 fun K hK => ?_; simp (maxSteps := 4000000) only [go_sem]; refine hK _ ?_; clear hK K))
          refine z21 (by kernel_rfl) (by kernel_rfl) fun K hK => ?_
          simp (maxSteps := 4000000) only [go_sem, d0]
          refine ⟨by kernel_rfl, hK _ ?_⟩
          clear hK K
          repeat (first | refine z12 rfl ?_ | refine z11 rfl ?_ | refine nx (by first | (constructor; done) | exact .other rfl) ?_ | (refine z10 fun K hK => ?_; simp (maxSteps := 4000000) only [go_sem, hw]; refine hK _ ?_; clear hK K))
          refine ⟨rfl, a + 1, ?_, .inr (by omega), by omega⟩
          rw [hX]
          refine z13 [] ?_ ?_ rfl rfl <;> simp [lessT, lessM, lessB, AV.less]
          all_goals first | done | rfl
        | succ j =>
          have w1 : IntKind.i64.wrap (((j + 1 : Nat) : Int) - 1) = (j : Int) := by rw [z20 (by omega)]; omega
          have d1 : decide (((j + 1 : Nat) : Int) > 0) = true := decide_eq_true (by omega)
          have n1 : ¬ (((j + 1 : Nat) : Int) < 0) := by omega
          have n0 : ¬ ((j : Int) < 0) := by omega
          have k1 : j + 1 < cur.length := by omega
          have k0 : j < cur.length := by omega
          have g1 := z97 (L := cur) (i := j + 1) (by omega)
          have g0 := z97 (L := cur) (i := j) (by omega)
          obtain ⟨x, hx⟩ : ∃ x, cur.getD (j + 1) 0 = x := ⟨_, rfl⟩
          obtain ⟨y, hy⟩ : ∃ y, cur.getD j 0 = y := ⟨_, rfl⟩
          have hxm : x ∈ cur := by
            rw [← hx, List.getD, List.getElem?_eq_getElem (by omega : j + 1 < cur.length)]
            exact List.getElem_mem _
          have hym : y ∈ cur := by
            rw [← hy, List.getD, List.getElem?_eq_getElem (by omega : j < cur.length)]
            exact List.getElem_mem _
          rw [hx] at g1
          rw [hy] at g0
          have hc := hcmp x y (hcx x hxm) (hcx y hym)
          have hfx : (batAt k x).last = f x := by rw [hf]
          have hfy : (batAt k y).last = f y := by rw [hf]
          rw [hfx, hfy] at hc
          rw [sinkN, hx, hy] at hsk
          have hd := hcm (f x) (f y)
          obtain ⟨cv, hcv⟩ : ∃ cv, cv = cmpI (f x) (f y) := ⟨_, rfl⟩
          rw [← hcv] at hc hd
          by_cases hlt2 : f x < f y
          · rw [if_pos hlt2] at hsk
            rw [decide_eq_true hlt2] at hd
            obtain ⟨C1, hC1⟩ : ∃ C1, C1 = cur.set (j + 1) y := ⟨_, rfl⟩
            have su1 : (natRows cur).set (j + 1) [.i (y : Int)] = natRows C1 := by rw [z289, hC1]
            have hC1l : C1.length = cur.length := by rw [hC1]; simp
            have g2 : (natRows C1)[j]? = some [.i (y : Int)] := by
              have := z97 (L := C1) (i := j) (by omega)
              rw [this, hC1, List.getD, List.getElem?_set_ne (by omega), ← List.getD, hy]
            have su2 : (natRows C1).set j [.i (x : Int)] = natRows (swapN cur j) := by rw [z289, hC1, swapN, hx, hy]
            simp (maxSteps := 4000000) only [go_sem]
            repeat (first | refine nx (by first | (constructor; done) | exact .other rfl) ?_ | (refine z10 fun K hK => ?_; simp (maxSteps := 4000000) only [go_sem]; refine hK _ ?_; clear hK K))
            refine z21 (by kernel_rfl) (by kernel_rfl) fun K hK => ?_
            simp (maxSteps := 4000000) only [go_sem, d1, w1, n1, n0, k1, k0, g1, g0]
            refine ⟨_, .fn (hf := hc) (hd := rfl) (hr := .inl rfl), ?_⟩
            simp (maxSteps := 4000000) only [go_sem, hd]
            refine ⟨by kernel_rfl, hK _ ?_⟩
            clear hK K
            refine z12 rfl ?_
            repeat (first | refine nx (by first | (constructor; done) | exact .other rfl) ?_ | (refine z10 fun K hK => ?_; simp (maxSteps := 4000000) only [go_sem]; refine hK _ ?_; clear hK K))
            have k2 : j < C1.length := by omega
            refine z21 (by kernel_rfl) (by kernel_rfl) fun K hK => ?_
            simp (maxSteps := 4000000) only [go_sem, w1, n1, n0, k1, k0, k2, g1, g0, su1, g2, su2]
            refine ⟨by kernel_rfl, hK _ ?_⟩
            clear hK K
            repeat (first | refine nx (by first | (constructor; done) | exact .other rfl) ?_ | (refine z10 fun K hK => ?_; simp (maxSteps := 4000000) only [go_sem, w1]; refine hK _ ?_; clear hK K))
            refine ⟨rfl, (j, swapN cur j), ?_, ⟨by dsimp only; omega, by dsimp only; rw [z276]; exact hcl, fun z hz => hcx z (z482 (by omega) hz), hsk⟩, by dsimp only; omega⟩
            refine z13 [] ?_ ?_ rfl rfl <;> simp [lessT, lessM, lessB, AV.less]
            all_goals first | done | rfl
          · rw [if_neg hlt2] at hsk
            rw [decide_eq_false hlt2] at hd
            have hX : cur = insN f L (a + 1) := by rw [hnx, ← hsk]
            simp (maxSteps := 4000000) only [go_sem]
            repeat (first | refine nx (by first | (constructor; done) | exact .other rfl) ?_ | (refine z10 fun K hK => ?_; simp (maxSteps := 4000000) only [go_sem]; refine hK _ ?_; clear hK K))
            refine z21 (by kernel_rfl) (by kernel_rfl) fun K hK => ?_
            simp (maxSteps := 4000000) only [go_sem, d1, w1, n1, n0, k1, k0, g1, g0]
            refine ⟨_, .fn (hf := hc) (hd := rfl) (hr := .inl rfl), ?_⟩
            simp (maxSteps := 4000000) only [go_sem, hd]
            refine ⟨by kernel_rfl, hK _ ?_⟩
            clear hK K
            repeat (first | refine z12 rfl ?_ | refine z11 rfl ?_ | refine nx (by first | (constructor; done) | exact .other rfl) ?_ | (refine z10 fun K hK => ?_; simp (maxSteps := 4000000) only [go_sem, hw]; refine hK _ ?_; clear hK K))
            refine ⟨rfl, a + 1, ?_, .inr (by omega), by omega⟩
            rw [← hX]
            refine z13 [] ?_ ?_ rfl rfl <;> simp [lessT, lessM, lessB, AV.less]
            all_goals first | done | rfl
    · have he : a = L.length - 1 := by (have : ¬ a + 1 < L.length := by intro h; have := decide_eq_true (p := ((a + 1 : Nat) : Int) < (L.length : Int)) (by omega); rw [this] at hb; cases hb); omega
      subst he
      repeat (first | refine nx (by first | (constructor; done) | exact .other rfl) ?_ | (refine z10 fun K hK => ?_; simp (maxSteps := 4000000) only [go_sem]; refine hK _ ?_; clear hK K))
      simp (maxSteps := 4000000) only [go_sem, retG]
end Go.Ab
namespace Go.Ab
open Go.RowKit Go.Proofs
set_option maxHeartbeats 8000000
set_option maxRecDepth 20000
attribute [local irreducible] WalkL Walk
def sortK (k : Kitchen) (L : List Nat) : List Nat := insN (fun i => (batAt k i).last) L (L.length - 1)
theorem z512 (L : List Nat) : rowsFlat (natRows L) := by
  intro r hr d hd
  obtain ⟨x, _, rfl⟩ := List.mem_map.1 hr
  rw [List.mem_singleton.1 hd]
  rfl
theorem z1011 (k : Kitchen) (L : List Nat) (hL : ∀ x ∈ L, x < k.batches.length) (hl : L.length ≤ 10) :
    FnG Try.prog 99 [.arr 3 1 (natRows L)] [0] [.own 0, .d (.i (L.length : Int)), .d (.fn 81 [.ptr k.cells 0])] (.tup []) [.arr 3 1 (natRows (sortK k L))] := by
  have h := z988 k L hL (by omega)
  change FnG Try.prog 107 _ _ _ _ [.arr 3 1 (natRows (sortK k L))] at h
  rw [Kitchen.cells] at h ⊢
  have d1 : decide ((20 : Int) ≤ (L.length : Int)) = false := decide_eq_false (by omega)
  have d2 : decide ((20 : Int) < (L.length : Int)) = false := decide_eq_false (by omega)
  obtain ⟨S, hS⟩ : ∃ S, S = sortK k L := ⟨_, rfl⟩
  rw [← hS] at h ⊢
  refine z62 63 Try.call99 Try.func99 rfl (by decide) [] [(0, 0)] (by simp only [List.length_cons, List.length_nil]; decide) (by kernel_rfl) fun J => ?_
  simp (maxSteps := 4000000) only [go_sem, St.startG, Try.ntmps99, Try.results99, List.map_cons, List.map_nil, List.range_succ]
  repeat (first | refine nx (by first | (constructor; done) | exact .other rfl) ?_ | (refine z10 fun K hK => ?_; simp (maxSteps := 4000000) only [go_sem]; refine hK _ ?_; clear hK K))
  refine z17 (fun (_ : Unit) => [(7, .d (.i 0)), (8, .d (.i 20))]) (fun _ => []) (fun _ => True) (fun _ => 0) () ?_ trivial ?_
  · simp (maxSteps := 4000000) only [go_sem]
    refine z13 [] ?_ ?_ rfl rfl <;> simp [lessT, lessM, lessB, AV.less]
  · intro _ _
    simp (maxSteps := 4000000) only [go_sem]
    repeat (first | refine z12 rfl ?_ | refine z11 rfl ?_ | refine nx (by first | (constructor; done) | exact .other rfl) ?_ | (refine z10 fun K hK => ?_; simp (maxSteps := 4000000) only [go_sem, d1]; refine hK _ ?_; clear hK K))
    refine z10 fun K hK => ?_
    simp (maxSteps := 4000000) only [go_sem]
    refine ⟨_, .own (ns := [63]) (news := []) (bads := []) (rd := []) (hf := h) (hnd := by decide) (hl0 := rfl) (hl1 := rfl) (hm := by repeat (first | exact trivial | refine And.intro ?_ ?_ | rfl)) (hnew := rfl) (hla := rfl) (ha := z31 (by repeat (first | exact trivial | refine And.intro ?_ ?_ | exact z32 rfl | exact z27 rfl rfl))) (hrd := rfl) (hsh := z28 _) (hb := rfl) (hfl := .inl rfl), ?_⟩
    simp (maxSteps := 4000000) only [go_sem, List.map_cons, List.map_nil]
    refine hK _ ?_
    clear hK K
    repeat (first | refine nx (by first | (constructor; done) | exact .other rfl) ?_ | (refine z10 fun K hK => ?_; simp (maxSteps := 4000000) only [go_sem]; refine hK _ ?_; clear hK K))
    refine z17 (fun (_ : Unit) => [(6, .d (.i 20))]) (fun _ => [(63, some (.arr 3 1 (natRows S)))]) (fun _ => True) (fun _ => 0) () ?_ trivial ?_
    · simp (maxSteps := 4000000) only [go_sem]
      refine z13 [] ?_ ?_ rfl rfl <;> simp [lessT, lessM, lessB, AV.less]
    · intro _ _
      simp (maxSteps := 4000000) only [go_sem]
      repeat (first | refine z12 rfl ?_ | refine z11 rfl ?_ | refine nx (by first | (constructor; done) | exact .other rfl) ?_ | (refine z10 fun K hK => ?_; simp (maxSteps := 4000000) only [go_sem, d2]; refine hK _ ?_; clear hK K))
      simp (maxSteps := 4000000) only [go_sem, retG]
theorem z1028 (k : Kitchen) (L : List Nat) (hL : ∀ x ∈ L, x < k.batches.length) (hl : L.length ≤ 10) :
    FnG Try.prog 80 [.arr 3 1 (natRows L)] [0] [.own 0, .d (.fn 81 [.ptr k.cells 0])] (.tup []) [.arr 3 1 (natRows (sortK k L))] := by
  have h := z1011 k L hL hl
  rw [Kitchen.cells] at h ⊢
  obtain ⟨S, hS⟩ : ∃ S, S = sortK k L := ⟨_, rfl⟩
  rw [← hS] at h ⊢
  refine z62 9 Try.call80 Try.func80 rfl (by decide) [] [(0, 0)] (by simp only [List.length_cons, List.length_nil]; decide) (by kernel_rfl) fun J => ?_
  simp (maxSteps := 4000000) only [go_sem, St.startG, Try.ntmps80, Try.results80, List.map_cons, List.map_nil, List.range_succ]
  repeat (first | refine nx (by first | (constructor; done) | exact .other rfl) ?_ | (refine z10 fun K hK => ?_; simp (maxSteps := 4000000) only [go_sem]; refine hK _ ?_; clear hK K))
  refine z10 fun K hK => ?_
  simp (maxSteps := 4000000) only [go_sem]
  refine ⟨_, .own (ns := [9]) (news := []) (bads := []) (rd := []) (hf := h) (hnd := by decide) (hl0 := rfl) (hl1 := rfl) (hm := by repeat (first | exact trivial | refine And.intro ?_ ?_ | rfl)) (hnew := rfl) (hla := rfl) (ha := z31 (by repeat (first | exact trivial | refine And.intro ?_ ?_ | exact z32 rfl | exact z27 rfl rfl))) (hrd := rfl) (hsh := z28 _) (hb := rfl) (hfl := .inl rfl), ?_⟩
  simp (maxSteps := 4000000) only [go_sem, List.map_cons, List.map_nil]
  refine hK _ ?_
  clear hK K
  repeat (first | refine nx (by first | (constructor; done) | exact .other rfl) ?_ | (refine z10 fun K hK => ?_; simp (maxSteps := 4000000) only [go_sem]; refine hK _ ?_; clear hK K))
  simp (maxSteps := 4000000) only [go_sem, retG]
def amtK (k : Kitchen) : List Int := k.batches.map (·.amount)
def lardRow (k : Kitchen) (l o : AV) (w : Int) : List AV := [.d (.sl (intRows k.allerg)), .d (.sl (batRows k.batches)), .d (.sl (dishRows k.dishes)), .d (.sl (dayRows k.days)), l, o, .d (.i w)]
theorem z947 (k : Kitchen) (hb : k.batches.length ≤ 10) : FnG Try.prog 41 [] [] [.d (.agg k.cells)] (.box 0 0) [.box (lardRow k (.own 1) (.own 2) 0), .arr 3 1 (intRows (amtK k)), .arr 3 1 (natRows (ordK k))] := by
  have h := z1028 k (List.range k.batches.length) (fun x hx => List.mem_range.1 hx) (by simpa using hb)
  have hord : sortK k (List.range k.batches.length) = ordK k := by rw [sortK, ordK, List.length_range]
  rw [hord] at h
  obtain ⟨O, hO⟩ : ∃ O, O = ordK k := ⟨_, rfl⟩
  rw [← hO] at h ⊢
  rw [Kitchen.cells] at h
  refine z62 47 Try.call41 Try.func41 rfl (by decide) [8, 26, 36] [] (by simp only [List.length_cons, List.length_nil]; decide) (by kernel_rfl) fun J => ?_
  simp (maxSteps := 4000000) only [go_sem, St.startG, Try.ntmps41, Try.results41, List.map_cons, List.map_nil, List.range_succ,  Kitchen.cells, lardRow]
  repeat (first | refine nx (by first | (constructor; done) | exact .other rfl) ?_ | (refine z10 fun K hK => ?_; simp (maxSteps := 4000000) only [go_sem]; refine hK _ ?_; clear hK K))
  refine z17 (fun (i : Nat) => [(13, .d (.i (i : Int)))]) (fun i => [(8, some (.box (lardRow k (.own 26) (.own 36) 0))), (26, some (.arr 3 1 (intRows ((amtK k).take i)))), (36, some (.arr 3 1 (natRows (List.range i))))]) (fun i => i ≤ k.batches.length) (fun i => k.batches.length - i) 0 ?_ (Nat.zero_le _) ?_
  · simp (maxSteps := 4000000) only [go_sem, lardRow]
    refine z13 [26, 36] ?_ ?_ rfl rfl <;> simp [lessT, lessM, lessB, AV.less]
    all_goals first | done | rfl | exact ⟨rfl, rfl⟩ | trace_state
  · intro i hi
    simp (maxSteps := 4000000) only [go_sem, lardRow]
    repeat (first | refine nx (by first | (constructor; done) | exact .other rfl) ?_ | (refine z10 fun K hK => ?_; simp (maxSteps := 4000000) only [go_sem]; refine hK _ ?_; clear hK K))
    refine z16 rfl (fun hb2 => ?_) (fun hb2 => ?_)
    · have hlt : i < k.batches.length := by simpa using hb2
      have hw : IntKind.i64.wrap ((i : Int) + 1) = ((i + 1 : Nat) : Int) := by rw [z20 (by omega)]; simp
      have gb := z149 hlt
      rw [Batch.row] at gb
      obtain ⟨A, hA⟩ : ∃ A, A = (amtK k).take i := ⟨_, rfl⟩
      have hAl : A.length ≤ 10 := by rw [hA]; simp; omega
      have hn : A.length + 1 ≤ 549755813888 := by omega
      have hn2 : i + 1 ≤ 549755813888 := by omega
      have e1 : (amtK k).take (i + 1) = A ++ [(batAt k i).amount] := by
        obtain ⟨x, hx⟩ : ∃ x, k.batches[i]? = some x := ⟨_, List.getElem?_eq_getElem hlt⟩
        have hx2 : (amtK k)[i]? = some x.amount := by simp [amtK, hx]
        rw [List.take_add_one, hx2, ← hA, batAt, List.getD, hx]
        rfl
      have s1 : intRows A ++ [[.i (batAt k i).amount]] = intRows ((amtK k).take (i + 1)) := by rw [e1]; simp [intRows]
      have s2 : natRows (List.range i) ++ [[.i (i : Int)]] = natRows (List.range (i + 1)) := by rw [List.range_succ]; simp [natRows]
      rw [← hA]
      repeat (first | refine nx (by first | (constructor; done) | exact .other rfl) ?_ | (refine z10 fun K hK => ?_; simp (maxSteps := 4000000) only [go_sem, gb]; refine hK _ ?_; clear hK K))
      refine z460 (by kernel_rfl) (by kernel_rfl) fun K hK => ?_
      simp (maxSteps := 4000000) only [go_sem, hn, s1]
      refine ⟨by kernel_rfl, hK _ ?_⟩
      clear hK K
      repeat (first | refine nx (by first | (constructor; done) | exact .other rfl) ?_ | (refine z10 fun K hK => ?_; simp (maxSteps := 4000000) only [go_sem, hn2, List.length_range, s2, hw]; refine hK _ ?_; clear hK K))
      refine ⟨rfl, i + 1, ?_, hlt, by omega⟩
      simp (maxSteps := 4000000) only [go_sem, lardRow]
      refine z13 [] ?_ ?_ rfl rfl <;> simp [lessT, lessM, lessB, AV.less]
      all_goals first | done | rfl | exact ⟨rfl, rfl⟩ | trace_state
    · have he : i = k.batches.length := by (have : ¬ i < k.batches.length := by simpa using hb2); omega
      subst he
      have e1 : (amtK k).take k.batches.length = amtK k := by rw [amtK, List.take_of_length_le (by simp)]
      rw [e1]
      repeat (first | refine nx (by first | (constructor; done) | exact .other rfl) ?_ | (refine z10 fun K hK => ?_; simp (maxSteps := 4000000) only [go_sem]; refine hK _ ?_; clear hK K))
      refine z10 fun K hK => ?_
      simp (maxSteps := 4000000) only [go_sem]
      refine ⟨_, .own (ns := [36]) (news := []) (bads := []) (rd := [1]) (hf := h) (hnd := by decide) (hl0 := rfl) (hl1 := rfl) (hm := by repeat (first | exact trivial | refine And.intro ?_ ?_ | rfl)) (hnew := rfl) (hla := rfl) (ha := z31 (by repeat (first | exact trivial | refine And.intro ?_ ?_ | exact z32 rfl | exact z27 rfl rfl))) (hrd := rfl) (hsh := by intro n hn row hrow k hk; simp at hn; subst hn; simp at hrow; subst hrow; simp [AV.refs, AV.refs.AV.refss] at hk) (hb := rfl) (hfl := .inr ⟨rfl, by simp only [List.all_cons, List.all_nil, Bool.and_true]; exact z831 (z512 _)⟩), ?_⟩
      simp (maxSteps := 4000000) only [go_sem, List.map_cons, List.map_nil]
      refine hK _ ?_
      clear hK K
      repeat (first | refine nx (by first | (constructor; done) | exact .other rfl) ?_ | (refine z10 fun K hK => ?_; simp (maxSteps := 4000000) only [go_sem]; refine hK _ ?_; clear hK K))
      simp (maxSteps := 4000000) only [go_sem, retG, lardRow]
end Go.Ab
namespace Go.Ab
open Go.RowKit Go.Proofs
set_option maxHeartbeats 8000000
set_option maxRecDepth 20000
attribute [local irreducible] WalkL Walk
theorem z946 (l : List Int) (hl : l.length < 2 ^ 30) : FnS Try.prog 77 [.sl (intRows l)] 3 1 (intRows l) := by
  have h1 : l.length ≤ 549755813888 := by omega
  have h2 : 0 + l.length ≤ 549755813888 := by omega
  cases l with
  | nil =>
    have e : intRows [] = [] := rfl
    rw [e]
    refine z208 8 Try.call77 Try.func77 rfl (by decide) fun J => ?_
    simp (maxSteps := 4000000) only [go_sem, St.start, Try.ntmps77, Try.results77]
    repeat (first | refine nx (by first | (constructor; done) | exact .other rfl) ?_ | (refine z10 fun K hK => ?_; simp (maxSteps := 4000000) only [go_sem, List.isEmpty_nil]; refine hK _ ?_; clear hK K))
    refine z780 rfl ?_ ?_
    · repeat (first | refine nx (by first | (constructor; done) | exact .other rfl) ?_ | (refine z10 fun K hK => ?_; simp (maxSteps := 4000000) only [go_sem]; refine hK _ ?_; clear hK K))
      simp (maxSteps := 4000000) only [go_sem]
    · repeat (first | refine nx (by first | (constructor; done) | exact .other rfl) ?_ | (refine z10 fun K hK => ?_; simp (maxSteps := 4000000) only [go_sem, List.nil_append, List.length_nil]; refine hK _ ?_; clear hK K))
      simp (maxSteps := 4000000) only [go_sem]
  | cons x l =>
    have hne : (intRows (x :: l)).isEmpty = false := rfl
    obtain ⟨L, hL⟩ : ∃ L, L = x :: l := ⟨_, rfl⟩
    rw [← hL] at hne h1 h2 ⊢
    refine z208 8 Try.call77 Try.func77 rfl (by decide) fun J => ?_
    simp (maxSteps := 4000000) only [go_sem, St.start, Try.ntmps77, Try.results77]
    repeat (first | refine nx (by first | (constructor; done) | exact .other rfl) ?_ | (refine z10 fun K hK => ?_; simp (maxSteps := 4000000) only [go_sem, hne]; refine hK _ ?_; clear hK K))
    refine z11 rfl ?_
    repeat (first | refine nx (by first | (constructor; done) | exact .other rfl) ?_ | (refine z10 fun K hK => ?_; simp (maxSteps := 4000000) only [go_sem, h1, h2, List.nil_append, List.length_nil]; refine hK _ ?_; clear hK K))
    simp (maxSteps := 4000000) only [go_sem]
def dinAt (k : Kitchen) (day group : Nat) : Diners := (k.days.getD day []).getD group ⟨0, ⟨0, 0⟩⟩
theorem z260 {k : Kitchen} {day : Nat} (h : day < k.days.length) : (dayRows k.days)[day]? = some [.sl (dinRows (k.days.getD day []))] := by
  obtain ⟨x, hx⟩ : ∃ x, k.days[day]? = some x := ⟨_, List.getElem?_eq_getElem h⟩
  rw [z69 hx, List.getD, hx]
  rfl
theorem z693 {k : Kitchen} {day group : Nat} (h : group < (k.days.getD day []).length) : (dinRows (k.days.getD day []))[group]? = some (dinAt k day group).row := by
  unfold dinAt
  obtain ⟨D, hD⟩ : ∃ D, D = k.days.getD day [] := ⟨_, rfl⟩
  rw [← hD] at h ⊢
  obtain ⟨x, hx⟩ : ∃ x, D[group]? = some x := ⟨_, List.getElem?_eq_getElem h⟩
  rw [z68 hx, List.getD, hx]
  rfl
theorem z970 (k : Kitchen) (day group : Nat) (hd : day < k.days.length) (hg : group < (k.days.getD day []).length) : Fn Try.prog 46 [.agg k.cells, .i (day : Int), .i (group : Int)] (.i (dinAt k day group).count.hi) := by
  have g1 := z260 hd
  have g2 := z693 hg
  have n1 : ¬ ((day : Int) < 0) := by omega
  have n2 : ¬ ((group : Int) < 0) := by omega
  rw [Diners.row] at g2
  refine z22 18 Try.call46 Try.func46 rfl (by decide) fun J => ?_
  simp (maxSteps := 4000000) only [go_sem, St.start, Try.ntmps46, Try.results46, Kitchen.cells]
  repeat (first | refine nx (by first | (constructor; done) | exact .other rfl) ?_ | (refine z10 fun K hK => ?_; simp (maxSteps := 4000000) only [go_sem, g1, g2, n1, n2]; refine hK _ ?_; clear hK K))
  simp (maxSteps := 4000000) only [go_sem]
theorem z1044 (k : Kitchen) (day group : Nat) (hd : day < k.days.length) (hg : group < (k.days.getD day []).length) : Fn Try.prog 57 [.agg k.cells, .i (day : Int), .i (group : Int)] (.i (dinAt k day group).count.lo) := by
  have g1 := z260 hd
  have g2 := z693 hg
  have n1 : ¬ ((day : Int) < 0) := by omega
  have n2 : ¬ ((group : Int) < 0) := by omega
  rw [Diners.row] at g2
  refine z22 18 Try.call57 Try.func57 rfl (by decide) fun J => ?_
  simp (maxSteps := 4000000) only [go_sem, St.start, Try.ntmps57, Try.results57, Kitchen.cells]
  repeat (first | refine nx (by first | (constructor; done) | exact .other rfl) ?_ | (refine z10 fun K hK => ?_; simp (maxSteps := 4000000) only [go_sem, g1, g2, n1, n2]; refine hK _ ?_; clear hK K))
  simp (maxSteps := 4000000) only [go_sem]
def clrTo (k : Kitchen) (day : Int) (l : List Int) (w : Int) : Nat → List Int × Int
  | 0 => (l, w)
  | j + 1 => if (batAt k j).last < day then ((clrTo k day l w j).1.set j 0, (clrTo k day l w j).2 + getI (clrTo k day l w j).1 (j : Int)) else clrTo k day l w j
theorem z40 (k : Kitchen) (day : Int) (l : List Int) (w : Int) : ∀ j, (clrTo k day l w j).1.length = l.length
  | 0 => rfl
  | j + 1 => by
    rw [clrTo]
    split
    · simp [z40 k day l w j]
    · exact z40 k day l w j
def AmtOk (l : List Int) : Prop := ∀ x ∈ l, 0 ≤ x ∧ x ≤ 1000000
theorem AmtOk.get {l : List Int} (h : AmtOk l) (i : Int) : 0 ≤ getI l i ∧ getI l i ≤ 1000000 := z141 h (by decide) i
theorem AmtOk.set {l : List Int} (h : AmtOk l) (i : Nat) {x : Int} (hx : 0 ≤ x ∧ x ≤ 1000000) : AmtOk (l.set i x) := fun y hy => by
  rcases List.mem_or_eq_of_mem_set hy with hy | rfl
  · exact h y hy
  · exact hx
theorem z49 {k : Kitchen} {day : Int} {l : List Int} {w : Int} (h : AmtOk l) : ∀ j, AmtOk (clrTo k day l w j).1 ∧ w ≤ (clrTo k day l w j).2 ∧ (clrTo k day l w j).2 ≤ w + 1000000 * j
  | 0 => ⟨h, Int.le_refl _, by simp [clrTo]⟩
  | j + 1 => by
    obtain ⟨h1, h2, h3⟩ := z49 (k := k) (day := day) (w := w) h j
    rw [clrTo]
    split
    · have := h1.get (j : Int)
      refine ⟨h1.set j (by decide), ?_, ?_⟩ <;> dsimp only <;> omega
    · exact ⟨h1, h2, by omega⟩
theorem z850 (k : Kitchen) (hb : k.batches.length ≤ 10) (day : Int) (l : List Int) (o : List Nat) (w : Int) (hl : l.length = k.batches.length) (ha : AmtOk l) (hw0 : 0 ≤ w ∧ w ≤ 2 ^ 40) :
    FnG Try.prog 42 [.box (lardRow k (.own 1) (.own 2) w), .arr 3 1 (intRows l), .arr 3 1 (natRows o)] [0] [.box 0 0, .d (.i day)] (.tup [])
      [.box (lardRow k (.own 1) (.own 2) (clrTo k day l w k.batches.length).2), .arr 3 1 (intRows (clrTo k day l w k.batches.length).1), .arr 3 1 (natRows o)] := by
  have hst0 : clrTo k day l w 0 = (l, w) := rfl
  obtain ⟨R, hR⟩ : ∃ R, R = clrTo k day l w := ⟨_, rfl⟩
  have hRl : ∀ j, (R j).1.length = l.length := by rw [hR]; exact z40 k day l w
  have hRo : ∀ j, AmtOk (R j).1 ∧ w ≤ (R j).2 ∧ (R j).2 ≤ w + 1000000 * j := by rw [hR]; exact z49 ha
  have hRs : ∀ j, R (j + 1) = if (batAt k j).last < day then ((R j).1.set j 0, (R j).2 + getI (R j).1 (j : Int)) else R j := by rw [hR]; exact fun j => rfl
  rw [← hR] at hst0
  rw [show clrTo k day l w = R from hR.symm]
  refine z62 43 Try.call42 Try.func42 rfl (by decide) [] [(0, 0)] (by simp only [List.length_cons, List.length_nil]; decide) (by kernel_rfl) fun J => ?_
  simp (maxSteps := 4000000) only [go_sem, St.startG, Try.ntmps42, Try.results42, List.map_cons, List.map_nil, List.range_succ,  lardRow]
  repeat (first | refine nx (by first | (constructor; done) | exact .other rfl) ?_ | (refine z10 fun K hK => ?_; simp (maxSteps := 4000000) only [go_sem]; refine hK _ ?_; clear hK K))
  refine z17 (fun (i : Nat) => [(13, .d (.i (i : Int)))]) (fun i => [(43, some (.box (lardRow k (.own 44) (.own 45) (R i).2))), (44, some (.arr 3 1 (intRows (R i).1)))]) (fun i => i ≤ k.batches.length) (fun i => k.batches.length - i) 0 ?_ (Nat.zero_le _) ?_
  · rw [hst0]
    simp (maxSteps := 4000000) only [go_sem, lardRow]
    refine z13 [] ?_ ?_ rfl rfl <;> simp [lessT, lessM, lessB, AV.less]
    all_goals first | done | rfl | trace_state
  · intro i hi
    have hAl := hRl i
    obtain ⟨hok, hw1, hw2⟩ := hRo i
    have hnx := hRs i
    obtain ⟨⟨A, v⟩, hAv⟩ : ∃ p, R i = p := ⟨_, rfl⟩
    rw [hAv] at hAl hok hw1 hw2 hnx ⊢
    dsimp only at hAl hok hw1 hw2 hnx ⊢
    simp (maxSteps := 4000000) only [go_sem, lardRow]
    repeat (first | refine nx (by first | (constructor; done) | exact .other rfl) ?_ | (refine z10 fun K hK => ?_; simp (maxSteps := 4000000) only [go_sem]; refine hK _ ?_; clear hK K))
    refine z16 rfl (fun hb2 => ?_) (fun hb2 => ?_)
    · have hlt : i < k.batches.length := by simpa using hb2
      have hw : IntKind.i64.wrap ((i : Int) + 1) = ((i + 1 : Nat) : Int) := by rw [z20 (by omega)]; simp
      have gb := z149 hlt
      rw [Batch.row] at gb
      have hni : ¬ ((i : Int) < 0) := by omega
      have hiA : i < A.length := by omega
      have gA := z30 hiA
      have hg := hok.get (i : Int)
      have e1 : IntKind.i64.wrap (v + getI A (i : Int)) = v + getI A (i : Int) := z20 (by omega)
      have su : (intRows A).set i [.i 0] = intRows (A.set i 0) := z56 A i 0
      by_cases hq : (batAt k i).last < day
      · rw [if_pos hq] at hnx
        have d : decide ((batAt k i).last < day) = true := decide_eq_true hq
        repeat (first | refine z12 rfl ?_ | refine z11 rfl ?_ | refine nx (by first | (constructor; done) | exact .other rfl) ?_ | (refine z10 fun K hK => ?_; simp (maxSteps := 4000000) only [go_sem, gb, d]; refine hK _ ?_; clear hK K))
        refine z21 (by kernel_rfl) (by kernel_rfl) fun K hK => ?_
        simp (maxSteps := 4000000) only [go_sem, hni, hiA, gA, e1]
        refine ⟨by kernel_rfl, hK _ ?_⟩
        clear hK K
        repeat (first | refine nx (by first | (constructor; done) | exact .other rfl) ?_ | (refine z10 fun K hK => ?_; simp (maxSteps := 4000000) only [go_sem, hni, hiA, gA, su, hw]; refine hK _ ?_; clear hK K))
        refine ⟨rfl, i + 1, ?_, hlt, by omega⟩
        rw [hnx]
        simp (maxSteps := 4000000) only [go_sem, lardRow]
        refine z13 [] ?_ ?_ rfl rfl <;> simp [lessT, lessM, lessB, AV.less]
        all_goals first | done | rfl | trace_state
      · rw [if_neg hq] at hnx
        have d : decide ((batAt k i).last < day) = false := decide_eq_false hq
        repeat (first | refine z12 rfl ?_ | refine z11 rfl ?_ | refine nx (by first | (constructor; done) | exact .other rfl) ?_ | (refine z10 fun K hK => ?_; simp (maxSteps := 4000000) only [go_sem, gb, d, hw]; refine hK _ ?_; clear hK K))
        refine ⟨rfl, i + 1, ?_, hlt, by omega⟩
        rw [hnx]
        simp (maxSteps := 4000000) only [go_sem, lardRow]
        refine z13 [] ?_ ?_ rfl rfl <;> simp [lessT, lessM, lessB, AV.less]
        all_goals first | done | rfl | trace_state
    · have he : i = k.batches.length := by (have : ¬ i < k.batches.length := by simpa using hb2); omega
      subst he
      rw [hAv]
      repeat (first | refine nx (by first | (constructor; done) | exact .other rfl) ?_ | (refine z10 fun K hK => ?_; simp (maxSteps := 4000000) only [go_sem]; refine hK _ ?_; clear hK K))
      simp (maxSteps := 4000000) only [go_sem, retG, lardRow]
end Go.Ab
namespace Go.Ab
open Go.RowKit Go.Proofs
set_option maxHeartbeats 16000000
set_option maxRecDepth 20000
attribute [local irreducible] WalkL Walk
def needG (k : Kitchen) (ds : List Int) (cnt : Nat → Int) (good : Nat) : Nat → Int
  | 0 => 0
  | g + 1 => needG k ds cnt good g + getI (dishAt k (getI ds (g : Int))).needs (good : Int) * cnt g
def needL (k : Kitchen) (ds : List Int) (cnt : Nat → Int) : List Int := (List.range k.allerg.length).map fun x => needG k ds cnt x ds.length
theorem z311 {k : Kitchen} (hg : KitGood k) {n : Nat} (h : n < k.dishes.length) (i : Int) : 0 ≤ getI (dishAt k (n : Int)).needs i ∧ getI (dishAt k (n : Int)).needs i ≤ 5000 := by
  obtain ⟨x, hx⟩ : ∃ x, k.dishes[n]? = some x := ⟨_, List.getElem?_eq_getElem h⟩
  have : dishAt k (n : Int) = x := by rw [dishAt, Int.toNat_natCast, List.getD, hx]; rfl
  rw [this]
  exact z141 (hg.needs x (List.mem_of_getElem? hx)).2 (by decide) i
structure DayOk (k : Kitchen) (ds : List Int) (cnt : Nat → Int) : Prop where
  len : ds.length ≤ 3
  dish : ∀ g < ds.length, ∃ n : Nat, ds[g]? = some (n : Int) ∧ n < k.dishes.length
  cnt : ∀ g < ds.length, 0 ≤ cnt g ∧ cnt g ≤ 100
theorem z169 {k : Kitchen} (hg : KitGood k) {ds : List Int} {cnt : Nat → Int} (hd : DayOk k ds cnt) (good : Nat) : ∀ g : Nat, g ≤ ds.length → 0 ≤ needG k ds cnt good g ∧ needG k ds cnt good g ≤ 500000 * g
  | 0, _ => by simp [needG]
  | g + 1, h => by
    have ih := z169 hg hd good g (by omega)
    obtain ⟨n, hn, hnl⟩ := hd.dish g (by omega)
    have hc := hd.cnt g (by omega)
    have e : getI ds (g : Int) = n := by rw [getI, Int.toNat_natCast, List.getD, hn]; rfl
    have q := z311 hg hnl (good : Int)
    have m1 : 0 ≤ getI (dishAt k (n : Int)).needs (good : Int) * cnt g := Int.mul_nonneg q.1 hc.1
    have m2 : getI (dishAt k (n : Int)).needs (good : Int) * cnt g ≤ 5000 * 100 := Int.mul_le_mul q.2 hc.2 hc.1 (by decide)
    rw [needG, e]
    omega
def mixL (G : Nat) (a b : Nat → Int) (j : Nat) : List Int := (List.range G).map fun x => if x < j then b x else a x
theorem z263 (G : Nat) (a b : Nat → Int) (j : Nat) : (mixL G a b j).length = G := by simp [mixL]
theorem z924 (G : Nat) (a b : Nat → Int) {j : Nat} (h : j < G) : (mixL G a b j)[j]? = some (a j) := by simp [mixL, h]
theorem z881 (G : Nat) (a b : Nat → Int) {j : Nat} (h : j < G) : (mixL G a b j).set j (b j) = mixL G a b (j + 1) := by
  refine List.ext_getElem? fun i => ?_
  rw [List.getElem?_set, z263]
  by_cases hi : i < G
  · by_cases he : j = i
    · subst he
      rw [if_pos rfl, if_pos hi]
      simp [mixL, hi]
    · rw [if_neg he]
      have : (i < j + 1) = (i < j) := by apply propext; omega
      simp [mixL, hi, this]
  · rw [List.getElem?_eq_none (l := mixL G a b (j + 1)) (by rw [z263]; omega)]
    by_cases he : j = i
    · omega
    · rw [if_neg he, List.getElem?_eq_none (by rw [z263]; omega)]
theorem z882 (G : Nat) (a b : Nat → Int) : mixL G a b G = (List.range G).map b := by
  unfold mixL
  refine List.map_congr_left fun x hx => ?_
  rw [if_pos (List.mem_range.1 hx)]
theorem z814 (G : Nat) (a b : Nat → Int) : mixL G a b 0 = (List.range G).map a := by
  unfold mixL
  refine List.map_congr_left fun x hx => ?_
  rw [if_neg (by omega)]
theorem z849 (k : Kitchen) (hg : KitGood k) (ds : List Int) (cnt : Nat → Int) (g : Nat) (caps : List DV) (hd : DayOk k ds cnt) (hc : ∀ j, j < ds.length → Fn Try.prog g (.i (j : Int) :: caps) (.i (cnt j))) :
    FnS Try.prog 44 [.agg k.cells, .sl (intRows ds), .fn g caps] 3 1 (intRows (needL k ds cnt)) := by
  have hgo := hg.goods
  have hdl := hd.len
  have hmk : (k.allerg.length : Int) ≤ 1099511627776 := by omega
  have hrep := z300 k.allerg.length
  unfold needL
  obtain ⟨G, hG⟩ : ∃ G, G = k.allerg.length := ⟨_, rfl⟩
  obtain ⟨f, hf⟩ : ∃ f : Nat → Nat → Int, f = fun i x => needG k ds cnt x i := ⟨_, rfl⟩
  have hf0 : intRows (List.replicate G 0) = intRows ((List.range G).map (f 0)) := by
    rw [hf]
    congr 1
    refine List.ext_getElem? fun i => ?_
    by_cases hi : i < G <;> simp [hi, needG, List.getElem?_replicate]
  have hfr : ∀ i x, i ≤ ds.length → 0 ≤ f i x ∧ f i x ≤ 500000 * i := fun i x hi => by rw [hf]; exact z169 hg hd x i hi
  have hfs : ∀ i x, f (i + 1) x = f i x + getI (dishAt k (getI ds (i : Int))).needs (x : Int) * cnt i := fun i x => by rw [hf]; rfl
  rw [show (fun x => needG k ds cnt x ds.length) = f ds.length by rw [hf]]
  rw [← hG] at hmk hrep hgo ⊢
  refine z208 51 Try.call44 Try.func44 rfl (by decide) fun J => ?_
  simp (maxSteps := 4000000) only [go_sem, St.start, Try.ntmps44, Try.results44, Kitchen.cells]
  repeat (first | refine nx (by first | (constructor; done) | exact .other rfl) ?_ | (refine z10 fun K hK => ?_; simp (maxSteps := 4000000) only [go_sem, ← hG, hmk, hrep]; refine hK _ ?_; clear hK K))
  refine z17 (fun (i : Nat) => [(19, .d (.i (i : Int)))]) (fun i => [(16, some (.arr 3 1 (intRows ((List.range G).map (f i)))))]) (fun i => i ≤ ds.length) (fun i => ds.length - i) 0 ?_ (Nat.zero_le _) ?_
  · rw [← hf0]
    simp (maxSteps := 4000000) only [go_sem]
    refine z13 [] ?_ ?_ rfl rfl <;> simp [lessT, lessM, lessB, AV.less]
    all_goals first | done | rfl | trace_state
  · intro i hi
    simp (maxSteps := 4000000) only [go_sem]
    repeat (first | refine nx (by first | (constructor; done) | exact .other rfl) ?_ | (refine z10 fun K hK => ?_; simp (maxSteps := 4000000) only [go_sem]; refine hK _ ?_; clear hK K))
    refine z16 rfl (fun hb => ?_) (fun hb => ?_)
    · have hlt : i < ds.length := by simpa using hb
      have hw : IntKind.i64.wrap ((i : Int) + 1) = ((i + 1 : Nat) : Int) := by rw [z20 (by omega)]; simp
      obtain ⟨n, hn, hnl⟩ := hd.dish i hlt
      have g1 := z42 hn
      have gd := z444 hnl
      have hl := z268 hg hnl
      have hnn : ¬ ((n : Int) < 0) := by omega
      have hci := hc i hlt
      have hcr := hd.cnt i hlt
      have e : getI ds (i : Int) = n := by rw [getI, Int.toNat_natCast, List.getD, hn]; rfl
      have hq := fun x : Nat => z311 hg hnl (x : Int)
      have hfi := hfs i
      rw [e] at hfi
      obtain ⟨N, hN⟩ : ∃ N, N = (dishAt k (n : Int)).needs := ⟨_, rfl⟩
      rw [← hN, ← hG] at hl
      rw [← hN] at gd
      rw [← hN] at hq hfi
      repeat (first | refine nx (by first | (constructor; done) | exact .other rfl) ?_ | (refine z10 fun K hK => ?_; simp (maxSteps := 4000000) only [go_sem, g1, gd, hnn, hl]; refine hK _ ?_; clear hK K))
      have m0 := z814 G (f i) (f (i + 1))
      refine z17 (fun (j : Nat) => [(32, .d (.i (j : Int)))]) (fun j => [(16, some (.arr 3 1 (intRows (mixL G (f i) (f (i + 1)) j))))]) (fun j => j ≤ G) (fun j => G - j) 0 ?_ (Nat.zero_le _) ?_
      · rw [m0]
        simp (maxSteps := 4000000) only [go_sem]
        refine z13 [] ?_ ?_ rfl rfl <;> simp [lessT, lessM, lessB, AV.less]
        all_goals first | done | rfl | trace_state
      · intro j hj
        have hMl := z263 G (f i) (f (i + 1)) j
        simp (maxSteps := 4000000) only [go_sem]
        repeat (first | refine nx (by first | (constructor; done) | exact .other rfl) ?_ | (refine z10 fun K hK => ?_; simp (maxSteps := 4000000) only [go_sem, hl]; refine hK _ ?_; clear hK K))
        refine z16 rfl (fun hb => ?_) (fun hb => ?_)
        · have hltj : j < G := by simpa using hb
          have hwj : IntKind.i64.wrap ((j : Int) + 1) = ((j + 1 : Nat) : Int) := by rw [z20 (by omega)]; simp
          have hnj : ¬ ((j : Int) < 0) := by omega
          have gN := z30 (l := N) (i := j) (by omega)
          have gM := z42 (z924 G (f i) (f (i + 1)) hltj)
          have r1 := hfr i j (by omega)
          have r2 := hq j
          have m1 : 0 ≤ getI N (j : Int) * cnt i := Int.mul_nonneg r2.1 hcr.1
          have m2 : getI N (j : Int) * cnt i ≤ 5000 * 100 := Int.mul_le_mul r2.2 hcr.2 hcr.1 (by decide)
          have e1 : IntKind.i64.wrap (getI N (j : Int) * cnt i) = getI N (j : Int) * cnt i := z20 (by omega)
          have e2 : IntKind.i64.wrap (f i j + getI N (j : Int) * cnt i) = f (i + 1) j := by rw [z20 (by omega), hfi j]
          have su : (intRows (mixL G (f i) (f (i + 1)) j)).set j [.i (f (i + 1) j)] = intRows (mixL G (f i) (f (i + 1)) (j + 1)) := by rw [z56, z881 _ _ _ hltj]
          obtain ⟨M, hM⟩ : ∃ M, M = mixL G (f i) (f (i + 1)) j := ⟨_, rfl⟩
          rw [← hM] at gM su hMl ⊢
          have hjM : j < M.length := by omega
          repeat (first | refine nx (by first | (constructor; done) | exact .other rfl) ?_ | (refine z10 fun K hK => ?_; simp (maxSteps := 4000000) only [go_sem, gN]; refine hK _ ?_; clear hK K))
          refine z21 (by kernel_rfl) (by kernel_rfl) fun K hK => ?_
          simp (maxSteps := 4000000) only [go_sem, gM, hjM, hnj]
          refine ⟨_, .fn (hf := hci) (hd := z54 _ _ _ _ rfl) (hr := .inl rfl), ?_⟩
          simp (maxSteps := 4000000) only [go_sem, gM, hjM, hnj, e1, e2, su]
          refine ⟨by kernel_rfl, hK _ ?_⟩
          clear hK K
          repeat (first | refine nx (by first | (constructor; done) | exact .other rfl) ?_ | (refine z10 fun K hK => ?_; simp (maxSteps := 4000000) only [go_sem, hwj]; refine hK _ ?_; clear hK K))
          refine ⟨rfl, j + 1, ?_, hltj, by omega⟩
          refine z13 [] ?_ ?_ rfl rfl <;> simp [lessT, lessM, lessB, AV.less]
          all_goals first | done | rfl | trace_state
        · have he : j = G := by (have : ¬ j < G := by simpa using hb); omega
          subst he
          rw [z882]
          repeat (first | refine nx (by first | (constructor; done) | exact .other rfl) ?_ | (refine z10 fun K hK => ?_; simp (maxSteps := 4000000) only [go_sem, hw]; refine hK _ ?_; clear hK K))
          refine ⟨rfl, i + 1, ?_, hlt, by omega⟩
          refine z13 [] ?_ ?_ rfl rfl <;> simp [lessT, lessM, lessB, AV.less]
          all_goals first | done | rfl | trace_state
    · have he : i = ds.length := by (have : ¬ i < ds.length := by simpa using hb); omega
      subst he
      repeat (first | refine nx (by first | (constructor; done) | exact .other rfl) ?_ | (refine z10 fun K hK => ?_; simp (maxSteps := 4000000) only [go_sem]; refine hK _ ?_; clear hK K))
      simp (maxSteps := 4000000) only [go_sem]
end Go.Ab
namespace Go.Ab
open Go.RowKit Go.Proofs
set_option maxHeartbeats 16000000
set_option maxRecDepth 20000
attribute [local irreducible] WalkL Walk
def takeStep (k : Kitchen) (good : Nat) (a : List Int × Int) (i : Nat) : List Int × Int :=
  if (batAt k i).good = (good : Int) then (a.1.set i (getI a.1 (i : Int) - min a.2 (getI a.1 (i : Int))), a.2 - min a.2 (getI a.1 (i : Int))) else a
def takeG (k : Kitchen) (o : List Nat) (good : Nat) (l : List Int) (need : Int) : List Int × Int := o.foldl (takeStep k good) (l, need)
def takeTo (k : Kitchen) (o : List Nat) (needs l : List Int) : Nat → Option (List Int)
  | 0 => some l
  | g + 1 => match takeTo k o needs l g with
    | none => none
    | some c => if (takeG k o g c (getI needs (g : Int))).2 > 0 then none else some (takeG k o g c (getI needs (g : Int))).1
theorem z83 {k : Kitchen} {good : Nat} {a : List Int × Int} {i : Nat} (h : AmtOk a.1) (hn : 0 ≤ a.2) : AmtOk (takeStep k good a i).1 ∧ (takeStep k good a i).1.length = a.1.length ∧ 0 ≤ (takeStep k good a i).2 ∧ (takeStep k good a i).2 ≤ a.2 := by
  unfold takeStep
  have hg := h.get (i : Int)
  split
  · refine ⟨h.set i (by omega), by simp, ?_, ?_⟩ <;> dsimp only <;> omega
  · exact ⟨h, rfl, hn, Int.le_refl _⟩
theorem z195 {k : Kitchen} {good : Nat} : ∀ (o : List Nat) {a : List Int × Int}, AmtOk a.1 → 0 ≤ a.2 → AmtOk (o.foldl (takeStep k good) a).1 ∧ (o.foldl (takeStep k good) a).1.length = a.1.length ∧ 0 ≤ (o.foldl (takeStep k good) a).2 ∧ (o.foldl (takeStep k good) a).2 ≤ a.2
  | [], a, h, hn => ⟨h, rfl, hn, Int.le_refl _⟩
  | i :: o, a, h, hn => by
    obtain ⟨h1, h2, h3, h4⟩ := z83 (k := k) (good := good) (i := i) h hn
    obtain ⟨k1, k2, k3, k4⟩ := z195 o h1 h3
    rw [List.foldl_cons]
    exact ⟨k1, by rw [k2, h2], k3, by omega⟩
theorem z89 {k : Kitchen} {o : List Nat} {needs l : List Int} (h : AmtOk l) (hn : ∀ x ∈ needs, 0 ≤ x) : ∀ (g : Nat) (c : List Int), takeTo k o needs l g = some c → AmtOk c ∧ c.length = l.length
  | 0, c, hc => by cases hc; exact ⟨h, rfl⟩
  | g + 1, c, hc => by
    rw [takeTo] at hc
    cases hx : takeTo k o needs l g with
    | none => rw [hx] at hc; cases hc
    | some d =>
      rw [hx] at hc
      dsimp only at hc
      split at hc
      · cases hc
      · cases hc
        obtain ⟨d1, d2⟩ := z89 h hn g d hx
        have hng : 0 ≤ getI needs (g : Int) := by
          unfold getI List.getD
          cases hy : needs[((g : Int)).toNat]? with
          | none => simp
          | some y => exact hn y (List.mem_of_getElem? hy)
        obtain ⟨k1, k2, _⟩ := z195 (k := k) (good := g) o (a := (d, getI needs (g : Int))) d1 hng
        exact ⟨k1, by rw [takeG, k2, d2]⟩
theorem z179 {k : Kitchen} {o : List Nat} {needs l : List Int} {g : Nat} (h : takeTo k o needs l g = none) : ∀ {m : Nat}, g ≤ m → takeTo k o needs l m = none := by
  intro m hm
  induction hm with
  | refl => exact h
  | step _ ih => rw [takeTo, ih]
def takeBlks (k : Kitchen) (w : Int) (l : List Int) (o : List Nat) : Option (List Int) → List Blk
  | none => [.box (lardRow k (.own 1) (.own 2) w), .arr 3 1 (intRows l), .arr 3 1 (natRows o)]
  | some c => [.box (lardRow k (.own 3) (.own 2) w), .arr 3 1 (intRows l), .arr 3 1 (natRows o), .arr 3 1 (intRows c)]
theorem z905 (k : Kitchen) (needs l : List Int) (o : List Nat) (w : Int) (hl : l.length = k.batches.length) (hbl : k.batches.length ≤ 10) (ha : AmtOk l) (hn : ∀ x ∈ needs, 0 ≤ x ∧ x ≤ 2 ^ 40) (hnl : needs.length ≤ 6) (ho : ∀ x ∈ o, x < k.batches.length) (hol : o.length ≤ 10) :
    FnG Try.prog 43 [.box (lardRow k (.own 1) (.own 2) w), .arr 3 1 (intRows l), .arr 3 1 (natRows o)] [0] [.box 0 0, .d (.sl (intRows needs))] (.d (.bool (takeTo k o needs l needs.length).isSome)) (takeBlks k w l o (takeTo k o needs l needs.length)) := by
  have h184 := z946 l (by omega)
  have hn0 : ∀ x ∈ needs, 0 ≤ x := fun x hx => (hn x hx).1
  have hto := fun g c hc => z89 (k := k) (o := o) ha hn0 g c hc
  cases hres : takeTo k o needs l needs.length with
  | none =>
    refine z62 68 Try.call43 Try.func43 rfl (by decide) [] [(0, 0)] (by simp only [List.length_cons, List.length_nil]; decide) (by kernel_rfl) fun J => ?_
    simp (maxSteps := 4000000) only [go_sem, St.startG, Try.ntmps43, Try.results43, List.map_cons, List.map_nil, List.range_succ,  lardRow]
    repeat (first | refine nx (by first | (constructor; done) | exact .other rfl) ?_ | (refine z10 fun K hK => ?_; simp (maxSteps := 4000000) only [go_sem]; refine hK _ ?_; clear hK K))
    refine z10 fun K hK => ?_
    simp (maxSteps := 4000000) only [go_sem]
    refine ⟨_, .lentS (hdst := rfl) (hf := h184) (hd := rfl) (hr := z38 _) (hfr := rfl), ?_⟩
    simp (maxSteps := 4000000) only [go_sem]
    refine hK _ ?_
    clear hK K
    repeat (first | refine nx (by first | (constructor; done) | exact .other rfl) ?_ | (refine z10 fun K hK => ?_; simp (maxSteps := 4000000) only [go_sem]; refine hK _ ?_; clear hK K))
    refine z17 (fun (q : Nat × List Int) => [(18, .d (.i (q.1 : Int)))]) (fun q => [(15, some (.arr 3 1 (intRows q.2)))]) (fun q => q.1 ≤ needs.length ∧ takeTo k o needs l q.1 = some q.2) (fun q => needs.length - q.1) (0, l) ?_ ⟨Nat.zero_le _, rfl⟩ ?_
    · simp (maxSteps := 4000000) only [go_sem]
      refine z13 [] ?_ ?_ rfl rfl <;> simp [lessT, lessM, lessB, AV.less]
      all_goals first | done | rfl | trace_state
    · rintro ⟨g, cur⟩ ⟨hg, hcur⟩
      dsimp only at hg hcur
      obtain ⟨hco, hcl⟩ := hto g cur hcur
      simp (maxSteps := 4000000) only [go_sem]
      repeat (first | refine nx (by first | (constructor; done) | exact .other rfl) ?_ | (refine z10 fun K hK => ?_; simp (maxSteps := 4000000) only [go_sem]; refine hK _ ?_; clear hK K))
      refine z16 rfl (fun hb => ?_) (fun hb => ?_)
      · have hlt : g < needs.length := by simpa using hb
        have hw : IntKind.i64.wrap ((g : Int) + 1) = ((g + 1 : Nat) : Int) := by rw [z20 (by omega)]; simp
        have gn := z30 hlt
        have hnx : takeTo k o needs l (g + 1) = if (takeG k o g cur (getI needs (g : Int))).2 > 0 then none else some (takeG k o g cur (getI needs (g : Int))).1 := by rw [takeTo, hcur]
        have hnr : 0 ≤ getI needs (g : Int) ∧ getI needs (g : Int) ≤ 2 ^ 40 := z141 hn (by decide) _
        obtain ⟨N, hN⟩ : ∃ N, N = getI needs (g : Int) := ⟨_, rfl⟩
        rw [← hN] at gn hnx hnr
        repeat (first | refine nx (by first | (constructor; done) | exact .other rfl) ?_ | (refine z10 fun K hK => ?_; simp (maxSteps := 4000000) only [go_sem, gn]; refine hK _ ?_; clear hK K))
        refine z17 (fun (q : Nat × List Int × Int) => [(28, .d (.i (q.1 : Int))), (7, .d (.i q.2.2))]) (fun q => [(15, some (.arr 3 1 (intRows q.2.1)))]) (fun q => q.1 ≤ o.length ∧ (q.2.1, q.2.2) = (o.take q.1).foldl (takeStep k g) (cur, N) ∧ AmtOk q.2.1 ∧ q.2.1.length = l.length ∧ 0 ≤ q.2.2 ∧ q.2.2 ≤ 2 ^ 40) (fun q => o.length - q.1) (0, cur, N) ?_ ⟨Nat.zero_le _, rfl, hco, hcl, hnr.1, hnr.2⟩ ?_
        · simp (maxSteps := 4000000) only [go_sem]
          refine z13 [] ?_ ?_ rfl rfl <;> simp [lessT, lessM, lessB, AV.less]
          all_goals first | done | rfl | trace_state
        · rintro ⟨j, A, m⟩ ⟨hj, hfold, hAo, hAl, hm0, hm1⟩
          dsimp only at hj hfold hAo hAl hm0 hm1
          simp (maxSteps := 4000000) only [go_sem]
          repeat (first | refine nx (by first | (constructor; done) | exact .other rfl) ?_ | (refine z10 fun K hK => ?_; simp (maxSteps := 4000000) only [go_sem]; refine hK _ ?_; clear hK K))
          refine z16 rfl (fun hb => ?_) (fun hb => ?_)
          · have hltj : j < o.length := by simpa using hb
            have hwj : IntKind.i64.wrap ((j : Int) + 1) = ((j + 1 : Nat) : Int) := by rw [z20 (by omega)]; simp
            have hnj : ¬ ((j : Int) < 0) := by omega
            obtain ⟨x, hx⟩ : ∃ x, o[j]? = some x := ⟨_, List.getElem?_eq_getElem hltj⟩
            have gx := z97 hltj
            rw [List.getD, hx, Option.getD_some] at gx
            have hxb := ho x (List.mem_of_getElem? hx)
            have gb := z149 hxb
            rw [Batch.row] at gb
            have hnx2 : ¬ ((x : Int) < 0) := by omega
            have hxA : x < A.length := by omega
            have gA := z30 hxA
            have hgA := hAo.get (x : Int)
            have hst : (o.take (j + 1)).foldl (takeStep k g) (cur, N) = takeStep k g (A, m) x := by rw [z78 _ _ _ _ _ hx, ← hfold]
            have hso := z83 (k := k) (good := g) (i := x) (a := (A, m)) hAo hm0
            by_cases hq : (batAt k x).good = (g : Int)
            · have d : ((batAt k x).good == (g : Int)) = true := by simp [hq]
              have e0 : takeStep k g (A, m) x = (A.set x (getI A (x : Int) - min m (getI A (x : Int))), m - min m (getI A (x : Int))) := by rw [takeStep, if_pos hq]
              rw [e0] at hst hso
              dsimp only at hso
              have e1 : IntKind.i64.wrap (getI A (x : Int) - min m (getI A (x : Int))) = getI A (x : Int) - min m (getI A (x : Int)) := z20 (by omega)
              have e2 : IntKind.i64.wrap (m - min m (getI A (x : Int))) = m - min m (getI A (x : Int)) := z20 (by omega)
              have su := z56 A x (getI A (x : Int) - min m (getI A (x : Int)))
              obtain ⟨v, hv⟩ : ∃ v, v = getI A (x : Int) := ⟨_, rfl⟩
              rw [← hv] at gA e1 e2 su hst hso hgA
              obtain ⟨t, ht⟩ : ∃ t, t = min m v := ⟨_, rfl⟩
              rw [← ht] at e1 e2 su hst hso
              have ht' : min m v = t := ht.symm
              repeat (first | refine z12 rfl ?_ | refine z11 rfl ?_ | refine nx (by first | (constructor; done) | exact .other rfl) ?_ | (refine z10 fun K hK => ?_; simp (maxSteps := 4000000) only [go_sem, gx, hnj, hltj, gb, hnx2, d]; refine hK _ ?_; clear hK K))
              repeat (first | refine nx (by first | (constructor; done) | exact .other rfl) ?_ | (refine z10 fun K hK => ?_; simp (maxSteps := 4000000) only [go_sem, gx, hnj, hltj, gb, hnx2, d, gA, hxA, ht', e1, e2, su, hwj]; refine hK _ ?_; clear hK K))
              refine ⟨rfl, (j + 1, A.set x (v - t), m - t), ?_, ⟨hltj, hst.symm, hso.1, by rw [hso.2.1]; exact hAl, hso.2.2.1, by dsimp only; omega⟩, by dsimp only; omega⟩
              refine z13 [] ?_ ?_ rfl rfl <;> simp [lessT, lessM, lessB, AV.less]
              all_goals first | done | rfl | trace_state
            · have d : ((batAt k x).good == (g : Int)) = false := by simpa using hq
              have e0 : takeStep k g (A, m) x = (A, m) := by rw [takeStep, if_neg hq]
              rw [e0] at hst
              repeat (first | refine z12 rfl ?_ | refine z11 rfl ?_ | refine nx (by first | (constructor; done) | exact .other rfl) ?_ | (refine z10 fun K hK => ?_; simp (maxSteps := 4000000) only [go_sem, gx, hnj, hltj, gb, hnx2, d, hwj]; refine hK _ ?_; clear hK K))
              refine ⟨rfl, (j + 1, A, m), ?_, ⟨hltj, hst.symm, hAo, hAl, hm0, hm1⟩, by dsimp only; omega⟩
              refine z13 [] ?_ ?_ rfl rfl <;> simp [lessT, lessM, lessB, AV.less]
              all_goals first | done | rfl | trace_state
          · have he : j = o.length := by (have : ¬ j < o.length := by simpa using hb); omega
            subst he
            rw [List.take_length] at hfold
            have hG : takeG k o g cur N = (A, m) := hfold.symm
            rw [hG] at hnx
            dsimp only at hnx
            repeat (first | refine nx (by first | (constructor; done) | exact .other rfl) ?_ | (refine z10 fun K hK => ?_; simp (maxSteps := 4000000) only [go_sem]; refine hK _ ?_; clear hK K))
            refine z16 rfl (fun hb => ?_) (fun hb => ?_)
            · have hpos : m > 0 := by simpa using hb
              rw [if_pos hpos] at hnx
              repeat (first | refine nx (by first | (constructor; done) | exact .other rfl) ?_ | (refine z10 fun K hK => ?_; simp (maxSteps := 4000000) only [go_sem]; refine hK _ ?_; clear hK K))
              simp (maxSteps := 4000000) only [go_sem, retG, takeBlks, lardRow, Option.isSome_none]
            · have hpos : ¬ m > 0 := by simpa using hb
              rw [if_neg hpos] at hnx
              repeat (first | refine nx (by first | (constructor; done) | exact .other rfl) ?_ | (refine z10 fun K hK => ?_; simp (maxSteps := 4000000) only [go_sem, hw]; refine hK _ ?_; clear hK K))
              refine ⟨rfl, (g + 1, A), ?_, ⟨hlt, hnx⟩, by dsimp only; omega⟩
              refine z13 [] ?_ ?_ rfl rfl <;> simp [lessT, lessM, lessB, AV.less]
              all_goals first | done | rfl | trace_state
      · have he : g = needs.length := by (have : ¬ g < needs.length := by simpa using hb); omega
        subst he
        rw [hres] at hcur
        cases hcur
  | some cf =>
    refine z62 68 Try.call43 Try.func43 rfl (by decide) [15] [(0, 0)] (by simp only [List.length_cons, List.length_nil]; decide) (by kernel_rfl) fun J => ?_
    simp (maxSteps := 4000000) only [go_sem, St.startG, Try.ntmps43, Try.results43, List.map_cons, List.map_nil, List.range_succ,  lardRow]
    repeat (first | refine nx (by first | (constructor; done) | exact .other rfl) ?_ | (refine z10 fun K hK => ?_; simp (maxSteps := 4000000) only [go_sem]; refine hK _ ?_; clear hK K))
    refine z10 fun K hK => ?_
    simp (maxSteps := 4000000) only [go_sem]
    refine ⟨_, .lentS (hdst := rfl) (hf := h184) (hd := rfl) (hr := z38 _) (hfr := rfl), ?_⟩
    simp (maxSteps := 4000000) only [go_sem]
    refine hK _ ?_
    clear hK K
    repeat (first | refine nx (by first | (constructor; done) | exact .other rfl) ?_ | (refine z10 fun K hK => ?_; simp (maxSteps := 4000000) only [go_sem]; refine hK _ ?_; clear hK K))
    refine z17 (fun (q : Nat × List Int) => [(18, .d (.i (q.1 : Int)))]) (fun q => [(15, some (.arr 3 1 (intRows q.2)))]) (fun q => q.1 ≤ needs.length ∧ takeTo k o needs l q.1 = some q.2) (fun q => needs.length - q.1) (0, l) ?_ ⟨Nat.zero_le _, rfl⟩ ?_
    · simp (maxSteps := 4000000) only [go_sem]
      refine z13 [] ?_ ?_ rfl rfl <;> simp [lessT, lessM, lessB, AV.less]
      all_goals first | done | rfl | trace_state
    · rintro ⟨g, cur⟩ ⟨hg, hcur⟩
      dsimp only at hg hcur
      obtain ⟨hco, hcl⟩ := hto g cur hcur
      simp (maxSteps := 4000000) only [go_sem]
      repeat (first | refine nx (by first | (constructor; done) | exact .other rfl) ?_ | (refine z10 fun K hK => ?_; simp (maxSteps := 4000000) only [go_sem]; refine hK _ ?_; clear hK K))
      refine z16 rfl (fun hb => ?_) (fun hb => ?_)
      · have hlt : g < needs.length := by simpa using hb
        have hw : IntKind.i64.wrap ((g : Int) + 1) = ((g + 1 : Nat) : Int) := by rw [z20 (by omega)]; simp
        have gn := z30 hlt
        have hnx : takeTo k o needs l (g + 1) = if (takeG k o g cur (getI needs (g : Int))).2 > 0 then none else some (takeG k o g cur (getI needs (g : Int))).1 := by rw [takeTo, hcur]
        have hnr : 0 ≤ getI needs (g : Int) ∧ getI needs (g : Int) ≤ 2 ^ 40 := z141 hn (by decide) _
        obtain ⟨N, hN⟩ : ∃ N, N = getI needs (g : Int) := ⟨_, rfl⟩
        rw [← hN] at gn hnx hnr
        repeat (first | refine nx (by first | (constructor; done) | exact .other rfl) ?_ | (refine z10 fun K hK => ?_; simp (maxSteps := 4000000) only [go_sem, gn]; refine hK _ ?_; clear hK K))
        refine z17 (fun (q : Nat × List Int × Int) => [(28, .d (.i (q.1 : Int))), (7, .d (.i q.2.2))]) (fun q => [(15, some (.arr 3 1 (intRows q.2.1)))]) (fun q => q.1 ≤ o.length ∧ (q.2.1, q.2.2) = (o.take q.1).foldl (takeStep k g) (cur, N) ∧ AmtOk q.2.1 ∧ q.2.1.length = l.length ∧ 0 ≤ q.2.2 ∧ q.2.2 ≤ 2 ^ 40) (fun q => o.length - q.1) (0, cur, N) ?_ ⟨Nat.zero_le _, rfl, hco, hcl, hnr.1, hnr.2⟩ ?_
        · simp (maxSteps := 4000000) only [go_sem]
          refine z13 [] ?_ ?_ rfl rfl <;> simp [lessT, lessM, lessB, AV.less]
          all_goals first | done | rfl | trace_state
        · rintro ⟨j, A, m⟩ ⟨hj, hfold, hAo, hAl, hm0, hm1⟩
          dsimp only at hj hfold hAo hAl hm0 hm1
          simp (maxSteps := 4000000) only [go_sem]
          repeat (first | refine nx (by first | (constructor; done) | exact .other rfl) ?_ | (refine z10 fun K hK => ?_; simp (maxSteps := 4000000) only [go_sem]; refine hK _ ?_; clear hK K))
          refine z16 rfl (fun hb => ?_) (fun hb => ?_)
          · have hltj : j < o.length := by simpa using hb
            have hwj : IntKind.i64.wrap ((j : Int) + 1) = ((j + 1 : Nat) : Int) := by rw [z20 (by omega)]; simp
            have hnj : ¬ ((j : Int) < 0) := by omega
            obtain ⟨x, hx⟩ : ∃ x, o[j]? = some x := ⟨_, List.getElem?_eq_getElem hltj⟩
            have gx := z97 hltj
            rw [List.getD, hx, Option.getD_some] at gx
            have hxb := ho x (List.mem_of_getElem? hx)
            have gb := z149 hxb
            rw [Batch.row] at gb
            have hnx2 : ¬ ((x : Int) < 0) := by omega
            have hxA : x < A.length := by omega
            have gA := z30 hxA
            have hgA := hAo.get (x : Int)
            have hst : (o.take (j + 1)).foldl (takeStep k g) (cur, N) = takeStep k g (A, m) x := by rw [z78 _ _ _ _ _ hx, ← hfold]
            have hso := z83 (k := k) (good := g) (i := x) (a := (A, m)) hAo hm0
            by_cases hq : (batAt k x).good = (g : Int)
            · have d : ((batAt k x).good == (g : Int)) = true := by simp [hq]
              have e0 : takeStep k g (A, m) x = (A.set x (getI A (x : Int) - min m (getI A (x : Int))), m - min m (getI A (x : Int))) := by rw [takeStep, if_pos hq]
              rw [e0] at hst hso
              dsimp only at hso
              have e1 : IntKind.i64.wrap (getI A (x : Int) - min m (getI A (x : Int))) = getI A (x : Int) - min m (getI A (x : Int)) := z20 (by omega)
              have e2 : IntKind.i64.wrap (m - min m (getI A (x : Int))) = m - min m (getI A (x : Int)) := z20 (by omega)
              have su := z56 A x (getI A (x : Int) - min m (getI A (x : Int)))
              obtain ⟨v, hv⟩ : ∃ v, v = getI A (x : Int) := ⟨_, rfl⟩
              rw [← hv] at gA e1 e2 su hst hso hgA
              obtain ⟨t, ht⟩ : ∃ t, t = min m v := ⟨_, rfl⟩
              rw [← ht] at e1 e2 su hst hso
              have ht' : min m v = t := ht.symm
              repeat (first | refine z12 rfl ?_ | refine z11 rfl ?_ | refine nx (by first | (constructor; done) | exact .other rfl) ?_ | (refine z10 fun K hK => ?_; simp (maxSteps := 4000000) only [go_sem, gx, hnj, hltj, gb, hnx2, d]; refine hK _ ?_; clear hK K))
              repeat (first | refine nx (by first | (constructor; done) | exact .other rfl) ?_ | (refine z10 fun K hK => ?_; simp (maxSteps := 4000000) only [go_sem, gx, hnj, hltj, gb, hnx2, d, gA, hxA, ht', e1, e2, su, hwj]; refine hK _ ?_; clear hK K))
              refine ⟨rfl, (j + 1, A.set x (v - t), m - t), ?_, ⟨hltj, hst.symm, hso.1, by rw [hso.2.1]; exact hAl, hso.2.2.1, by dsimp only; omega⟩, by dsimp only; omega⟩
              refine z13 [] ?_ ?_ rfl rfl <;> simp [lessT, lessM, lessB, AV.less]
              all_goals first | done | rfl | trace_state
            · have d : ((batAt k x).good == (g : Int)) = false := by simpa using hq
              have e0 : takeStep k g (A, m) x = (A, m) := by rw [takeStep, if_neg hq]
              rw [e0] at hst
              repeat (first | refine z12 rfl ?_ | refine z11 rfl ?_ | refine nx (by first | (constructor; done) | exact .other rfl) ?_ | (refine z10 fun K hK => ?_; simp (maxSteps := 4000000) only [go_sem, gx, hnj, hltj, gb, hnx2, d, hwj]; refine hK _ ?_; clear hK K))
              refine ⟨rfl, (j + 1, A, m), ?_, ⟨hltj, hst.symm, hAo, hAl, hm0, hm1⟩, by dsimp only; omega⟩
              refine z13 [] ?_ ?_ rfl rfl <;> simp [lessT, lessM, lessB, AV.less]
              all_goals first | done | rfl | trace_state
          · have he : j = o.length := by (have : ¬ j < o.length := by simpa using hb); omega
            subst he
            rw [List.take_length] at hfold
            have hG : takeG k o g cur N = (A, m) := hfold.symm
            rw [hG] at hnx
            dsimp only at hnx
            repeat (first | refine nx (by first | (constructor; done) | exact .other rfl) ?_ | (refine z10 fun K hK => ?_; simp (maxSteps := 4000000) only [go_sem]; refine hK _ ?_; clear hK K))
            refine z16 rfl (fun hb => ?_) (fun hb => ?_)
            · have hpos : m > 0 := by simpa using hb
              rw [if_pos hpos] at hnx
              rw [z179 hnx (by omega : g + 1 ≤ needs.length)] at hres
              cases hres
            · have hpos : ¬ m > 0 := by simpa using hb
              rw [if_neg hpos] at hnx
              repeat (first | refine nx (by first | (constructor; done) | exact .other rfl) ?_ | (refine z10 fun K hK => ?_; simp (maxSteps := 4000000) only [go_sem, hw]; refine hK _ ?_; clear hK K))
              refine ⟨rfl, (g + 1, A), ?_, ⟨hlt, hnx⟩, by dsimp only; omega⟩
              refine z13 [] ?_ ?_ rfl rfl <;> simp [lessT, lessM, lessB, AV.less]
              all_goals first | done | rfl | trace_state
      · have he : g = needs.length := by (have : ¬ g < needs.length := by simpa using hb); omega
        subst he
        rw [hres] at hcur
        cases hcur
        repeat (first | refine nx (by first | (constructor; done) | exact .other rfl) ?_ | (refine z10 fun K hK => ?_; simp (maxSteps := 4000000) only [go_sem]; refine hK _ ?_; clear hK K))
        simp (maxSteps := 4000000) only [go_sem, retG, takeBlks, lardRow, Option.isSome_some]
end Go.Ab
namespace Go.Ab
open Go.RowKit Go.Proofs
set_option maxHeartbeats 16000000
set_option maxRecDepth 20000
attribute [local irreducible] WalkL Walk
theorem z426 {q : Int → Diners → Bool} : ∀ {l : List Int} {d : List Diners}, rowOk q l d = true → ∀ {g : Nat} {n : Int}, l[g]? = some n → ∃ x, d[g]? = some x ∧ q n x = true
  | [], [], _, g, n, h => by simp at h
  | m :: l, x :: d, hr, g, n, h => by
    rw [rowOk, Bool.and_eq_true] at hr
    cases g with
    | zero => simp at h; subst h; exact ⟨x, rfl, hr.1⟩
    | succ g => simpa using z426 hr.2 (by simpa using h)
  | [], _ :: _, h, _, _, _ => by cases h
  | _ :: _, [], h, _, _, _ => by cases h
theorem z153 {q : Int → Diners → Bool} : ∀ {l : List (List Int)} {d : List (List Diners)}, shapedB q l d = true → ∀ {i : Nat} {r : List Int}, l[i]? = some r → ∃ x, d[i]? = some x ∧ rowOk q r x = true
  | [], [], _, i, r, h => by simp at h
  | m :: l, x :: d, hr, i, r, h => by
    rw [shapedB, Bool.and_eq_true] at hr
    cases i with
    | zero => simp at h; subst h; exact ⟨x, rfl, hr.1⟩
    | succ i => simpa using z153 hr.2 (by simpa using h)
  | [], _ :: _, h, _, _, _ => by cases h
  | _ :: _, [], h, _, _, _ => by cases h
structure CntOk (k : Kitchen) (cnt : Nat → Nat → Int) : Prop where
  rng : ∀ d g, d < k.days.length → g < (k.days.getD d []).length → 0 ≤ cnt d g ∧ cnt d g ≤ 100
theorem z117 {k : Kitchen} (hg : KitGood k) {M : List (List Int)} (hM : shapedB (menuB k) M k.days = true) {cnt : Nat → Nat → Int} (hc : CntOk k cnt) {d : Nat} {r : List Int} (hr : M[d]? = some r) :
    d < k.days.length ∧ r.length = (k.days.getD d []).length ∧ DayOk k r (cnt d) := by
  obtain ⟨x, hx, ho⟩ := z153 hM hr
  have hd := (List.getElem?_eq_some_iff.1 hx).1
  have e : k.days.getD d [] = x := by rw [List.getD, hx]; rfl
  have hl := z73 ho
  have h3 := (hg.groups x (List.mem_of_getElem? hx)).1
  refine ⟨hd, by rw [e, hl], ⟨by omega, fun g hgl => ?_, fun g hgl => hc.rng d g hd (by rw [e]; omega)⟩⟩
  obtain ⟨n, hn⟩ : ∃ n, r[g]? = some n := ⟨_, List.getElem?_eq_getElem hgl⟩
  obtain ⟨y, _, hq⟩ := z426 ho hn
  rw [menuB, Bool.and_eq_true] at hq
  have hw := z45.1 hq.1
  exact ⟨n.toNat, by rw [hn, Int.toNat_of_nonneg hw.1], by omega⟩
theorem z891 {k : Kitchen} (hg : KitGood k) : CntOk k fun d g => (dinAt k d g).count.hi := ⟨fun d g hd hgl => by
  obtain ⟨x, hx⟩ : ∃ x, k.days[d]? = some x := ⟨_, List.getElem?_eq_getElem hd⟩
  have e : k.days.getD d [] = x := by rw [List.getD, hx]; rfl
  rw [e] at hgl
  obtain ⟨y, hy⟩ : ∃ y, x[g]? = some y := ⟨_, List.getElem?_eq_getElem hgl⟩
  have e2 : dinAt k d g = y := by rw [dinAt, e, List.getD, hy]; rfl
  have := ((hg.groups x (List.mem_of_getElem? hx)).2 y (List.mem_of_getElem? hy)).2
  rw [e2]
  omega⟩
theorem z994 {k : Kitchen} (hg : KitGood k) : CntOk k fun d g => (dinAt k d g).count.lo := ⟨fun d g hd hgl => by
  obtain ⟨x, hx⟩ : ∃ x, k.days[d]? = some x := ⟨_, List.getElem?_eq_getElem hd⟩
  have e : k.days.getD d [] = x := by rw [List.getD, hx]; rfl
  rw [e] at hgl
  obtain ⟨y, hy⟩ : ∃ y, x[g]? = some y := ⟨_, List.getElem?_eq_getElem hgl⟩
  have e2 : dinAt k d g = y := by rw [dinAt, e, List.getD, hy]; rfl
  have := ((hg.groups x (List.mem_of_getElem? hx)).2 y (List.mem_of_getElem? hy)).2
  rw [e2]
  omega⟩
def clrD (k : Kitchen) (d : Nat) (a : List Int × Int) : List Int × Int := clrTo k (d : Int) a.1 a.2 k.batches.length
def needD (k : Kitchen) (M : List (List Int)) (cnt : Nat → Nat → Int) (d : Nat) : List Int := needL k (M.getD d []) (cnt d)
def runSt (k : Kitchen) (M : List (List Int)) (cnt : Nat → Nat → Int) : Nat → Option (List Int × Int)
  | 0 => some (amtK k, 0)
  | d + 1 => match runSt k M cnt d with
    | none => none
    | some a => (takeTo k (ordK k) (needD k M cnt d) (clrD k d a).1 k.allerg.length).map fun l => (l, (clrD k d a).2)
def lastD (k : Kitchen) (M : List (List Int)) (cnt : Nat → Nat → Int) : Nat → Nat
  | 0 => 0
  | d + 1 => if (runSt k M cnt (d + 1)).isSome then d + 1 else lastD k M cnt d
theorem z363 {k : Kitchen} {M : List (List Int)} {cnt : Nat → Nat → Int} {d : Nat} (h : runSt k M cnt d = none) : ∀ {m : Nat}, d ≤ m → runSt k M cnt m = none := by
  intro m hm
  induction hm with
  | refl => exact h
  | step _ ih => rw [runSt, ih]
theorem z204 {k : Kitchen} {M : List (List Int)} {cnt : Nat → Nat → Int} {d : Nat} (h : (runSt k M cnt d).isSome = true) : lastD k M cnt d = d := by
  cases d with
  | zero => rfl
  | succ d => rw [lastD, if_pos h]
theorem z233 {k : Kitchen} {M : List (List Int)} {cnt : Nat → Nat → Int} {d : Nat} (h : (runSt k M cnt d).isSome = true) (hn : runSt k M cnt (d + 1) = none) : ∀ {m : Nat}, d ≤ m → lastD k M cnt m = d := by
  intro m hm
  induction hm with
  | refl => exact z204 h
  | @step m hm ih =>
    rw [lastD, z363 hn (Nat.succ_le_succ hm)]
    exact ih
theorem z44 (k : Kitchen) (ds : List Int) (cnt : Nat → Int) : (needL k ds cnt).length = k.allerg.length := by simp [needL]
theorem z52 {k : Kitchen} (hg : KitGood k) {ds : List Int} {cnt : Nat → Int} (hd : DayOk k ds cnt) : ∀ x ∈ needL k ds cnt, 0 ≤ x ∧ x ≤ 2 ^ 40 := fun x hx => by
  obtain ⟨g, _, rfl⟩ := List.mem_map.1 hx
  have := z169 hg hd g ds.length (Nat.le_refl _)
  have := hd.len
  omega
theorem z321 {k : Kitchen} (hg : KitGood k) : AmtOk (amtK k) := fun x hx => by
  obtain ⟨b, hb, rfl⟩ := List.mem_map.1 hx
  exact (hg.batch b hb).2.1
theorem z135 {k : Kitchen} (hg : KitGood k) {M : List (List Int)} (hM : shapedB (menuB k) M k.days = true) {cnt : Nat → Nat → Int} (hc : CntOk k cnt) : ∀ (d : Nat) a, d ≤ M.length → runSt k M cnt d = some a → AmtOk a.1 ∧ a.1.length = k.batches.length ∧ 0 ≤ a.2 ∧ a.2 ≤ 10000000 * d
  | 0, a, _, h => by
    cases h
    exact ⟨z321 hg, by simp [amtK], Int.le_refl 0, by simp⟩
  | d + 1, a, hd, h => by
    rw [runSt] at h
    cases hx : runSt k M cnt d with
    | none => rw [hx] at h; cases h
    | some b =>
      rw [hx] at h
      dsimp only at h
      obtain ⟨h1, h2, h3, h4⟩ := z135 hg hM hc d b (by omega) hx
      obtain ⟨l, hl, rfl⟩ := Option.map_eq_some_iff.1 h
      obtain ⟨r, hr⟩ : ∃ r, M[d]? = some r := ⟨_, List.getElem?_eq_getElem (by omega)⟩
      obtain ⟨_, _, hdo⟩ := z117 hg hM hc hr
      have hnd : needD k M cnt d = needL k r (cnt d) := by rw [needD, List.getD, hr]; rfl
      obtain ⟨c1, c2, c3⟩ := z49 (k := k) (day := (d : Int)) (w := b.2) h1 k.batches.length
      obtain ⟨t1, t2⟩ := z89 (k := k) (o := ordK k) (needs := needD k M cnt d) c1 (fun x hx => by rw [hnd] at hx; exact (z52 hg hdo x hx).1) k.allerg.length l hl
      have hb := hg.batches
      refine ⟨t1, by rw [t2, z40, h2], ?_, ?_⟩
      · change 0 ≤ (clrTo k (d : Int) b.1 b.2 k.batches.length).2
        omega
      · change (clrTo k (d : Int) b.1 b.2 k.batches.length).2 ≤ _
        push_cast
        omega
theorem z977 (k : Kitchen) (f : FuncId) (d g : Nat) (c : Int) (h : Fn Try.prog f [.agg k.cells, .i (d : Int), .i (g : Int)] (.i c)) : Fn Try.prog 84 [.i (g : Int), .ptr [.bnd f [.agg k.cells]] 0, .ptr [.i (d : Int)] 0] (.i c) := by
  rw [Kitchen.cells] at h ⊢
  refine z22 9 Try.call84 Try.func84 rfl (by decide) fun J => ?_
  simp (maxSteps := 4000000) only [go_sem, St.start, Try.ntmps84, Try.results84]
  repeat (first | refine nx (by first | (constructor; done) | exact .other rfl) ?_ | (refine z10 fun K hK => ?_; simp (maxSteps := 4000000) only [go_sem]; (repeat (first | (refine ⟨_, .lent (hf := h) (hd := rfl) (hr := rfl), ?_⟩; simp (maxSteps := 4000000) only [go_sem]) | (refine ⟨_, .given (hf := h) (hd := rfl) (ha := rfl), ?_⟩; simp (maxSteps := 4000000) only [go_sem]))); refine hK _ ?_; clear hK K))
  simp (maxSteps := 4000000) only [go_sem]
end Go.Ab
namespace Go.Ab
open Go.RowKit Go.Proofs
set_option maxHeartbeats 16000000
set_option maxRecDepth 20000
attribute [local irreducible] WalkL Walk
def endSt (k : Kitchen) (M : List (List Int)) (cnt : Nat → Nat → Int) : List Int × Int :=
  let a := (runSt k M cnt (lastD k M cnt M.length)).getD (amtK k, 0)
  if lastD k M cnt M.length < M.length then clrD k (lastD k M cnt M.length) a else a
def leftAt (i : Nat) (a : List Int) : AV := if i = 0 then .own 1 else .d (.sl (intRows a))
def left0 (k : Kitchen) : List Int := (clrD k 0 (amtK k, 0)).1
def runBlks (k : Kitchen) (M : List (List Int)) (cnt : Nat → Nat → Int) : List Blk :=
  [.box (lardRow k (leftAt (lastD k M cnt M.length) (endSt k M cnt).1) (.own 2) (endSt k M cnt).2), .arr 3 1 (intRows (left0 k)), .arr 3 1 (natRows (ordK k))]
def nmL (p : Nat) : Nat := if p = 0 then 34 else p
theorem z231 {i : Nat} (h : i = 0) (a : List Int) : leftAt i a = .own 1 := by rw [leftAt, if_pos h]
theorem z105 {i : Nat} (h : i ≠ 0) (a : List Int) : leftAt i a = .d (.sl (intRows a)) := by rw [leftAt, if_neg h]
theorem z1003 (k : Kitchen) (hg : KitGood k) (M : List (List Int)) (hM : shapedB (menuB k) M k.days = true) (f : FuncId) (cnt : Nat → Nat → Int) (hc : CntOk k cnt)
    (hf : ∀ d g, d < k.days.length → g < (k.days.getD d []).length → Fn Try.prog f [.agg k.cells, .i (d : Int), .i (g : Int)] (.i (cnt d g))) :
    FnG Try.prog 55 [.box (lardRow k (.own 1) (.own 2) 0), .arr 3 1 (intRows (amtK k)), .arr 3 1 (natRows (ordK k))] [0] [.box 0 0, .d (.sl (listRows M)), .d (.bnd f [.agg k.cells])] (.d (.i (lastD k M cnt M.length : Nat))) (runBlks k M cnt) := by
  have hbl := hg.batches
  have hdl := hg.days
  have hMl := z46 hM
  have hgo := hg.goods
  obtain ⟨A0, hA0⟩ : ∃ a, a = left0 k := ⟨_, rfl⟩
  refine z62 33 Try.call55 Try.func55 rfl (by decide) [] [(0, 0)] (by simp only [List.length_cons, List.length_nil]; decide) (by kernel_rfl) fun J => ?_
  simp (maxSteps := 4000000) only [go_sem, St.startG, Try.ntmps55, Try.results55, List.map_cons, List.map_nil, List.range_succ,  lardRow]
  repeat (first | refine z24 ?_ | refine z23 ?_ | refine z18 ?_ | refine z19 ?_ | refine z15 ?_ | refine z14 ?_)
  refine z10 fun K hK => ?_
  simp (maxSteps := 4000000) only [go_sem]
  refine hK _ ?_
  clear hK K
  refine z25 [5] ?_
  simp (maxSteps := 4000000) only [go_sem]
  repeat (first | refine nx (by first | (constructor; done) | exact .other rfl) ?_ | (refine z10 fun K hK => ?_; simp (maxSteps := 4000000) only [go_sem, z26]; refine hK _ ?_; clear hK K))
  refine z17 (fun (q : Nat × Nat × List Int × Int) => [(11, .d (.i (q.1 : Int)))])
    (fun q => [(33, some (.box (lardRow k (.own (nmL q.2.1)) (.own 35) q.2.2.2))), (34, some (.arr 3 1 (intRows (if q.2.1 = 0 then q.2.2.1 else A0)))), (1, if q.2.1 = 1 then some (.arr 3 1 (intRows q.2.2.1)) else none), (2, if q.2.1 = 2 then some (.arr 3 1 (intRows q.2.2.1)) else none)])
    (fun q => q.1 ≤ M.length ∧ runSt k M cnt q.1 = some q.2.2 ∧ (q.2.1 = 0 → q.1 = 0 ∧ q.2.2.1 = amtK k) ∧ (q.1 = 0 → q.2.1 = 0) ∧ q.2.1 < 3) (fun q => M.length - q.1) (0, 0, amtK k, 0) ?_ ⟨Nat.zero_le _, rfl, fun _ => ⟨rfl, rfl⟩, fun _ => rfl, Nat.zero_lt_succ _⟩ ?_
  · simp (maxSteps := 4000000) only [go_sem, nmL, lardRow]
    refine z13 [] ?_ ?_ rfl rfl <;> simp [lessT, lessM, lessB, AV.less]
    all_goals first | done | rfl | exact ⟨rfl, rfl⟩ | trace_state
  · rintro ⟨d, p, l, w⟩ ⟨hd, hrun, hp0, hd0, hp3⟩
    dsimp only at hd hrun hp0 hd0 hp3
    obtain ⟨hla, hll, hw0, hw1⟩ := z135 hg hM hc d (l, w) hd hrun
    dsimp only at hla hll hw0 hw1
    have hw2 : w ≤ 2 ^ 40 := by omega
    have hsome : (runSt k M cnt d).isSome = true := by rw [hrun]; rfl
    have hlast : d = M.length → lastD k M cnt M.length = d ∧ endSt k M cnt = (l, w) := fun he => by
      have e : lastD k M cnt M.length = d := by rw [← he]; exact z204 hsome
      refine ⟨e, ?_⟩
      rw [endSt, e, hrun, if_neg (by omega)]
      rfl
    have hstop : d < M.length → runSt k M cnt (d + 1) = none → lastD k M cnt M.length = d ∧ endSt k M cnt = clrD k d (l, w) := fun hlt hn => by
      have e : lastD k M cnt M.length = d := z233 hsome hn (by omega)
      refine ⟨e, ?_⟩
      rw [endSt, e, hrun, if_pos hlt]
      rfl
    have hstep : d < M.length → runSt k M cnt (d + 1) = (takeTo k (ordK k) (needD k M cnt d) (clrD k d (l, w)).1 k.allerg.length).map fun c => (c, (clrD k d (l, w)).2) := fun _ => by rw [runSt, hrun]
    rcases (by omega : p = 0 ∨ p = 1 ∨ p = 2) with hp | hp | hp
    · -- phase 0
      subst hp
      obtain ⟨hz0, hl1⟩ := hp0 rfl
      have hLA := z231 hz0
      simp (maxSteps := 4000000) only [go_sem, nmL, lardRow]
      repeat (first | refine nx (by first | (constructor; done) | exact .other rfl) ?_ | (refine z10 fun K hK => ?_; simp (maxSteps := 4000000) only [go_sem]; refine hK _ ?_; clear hK K))
      refine z16 rfl (fun hb => ?_) (fun hb => ?_)
      · have hlt : d < M.length := by simpa using hb
        have hw : IntKind.i64.wrap ((d : Int) + 1) = ((d + 1 : Nat) : Int) := by rw [z20 (by omega)]; simp
        obtain ⟨r, hr⟩ : ∃ r, M[d]? = some r := ⟨_, List.getElem?_eq_getElem hlt⟩
        obtain ⟨hdd, hrl, hday⟩ := z117 hg hM hc hr
        have g1 := z35 hr
        have hni : ¬ ((d : Int) < 0) := by omega
        have hnd : needD k M cnt d = needL k r (cnt d) := by rw [needD, List.getD, hr]; rfl
        have hst := hstep hlt
        have hsp := hstop hlt
        rw [hnd] at hst
        have h86 := z850 k hbl (d : Int) l (ordK k) w hll hla ⟨hw0, hw2⟩
        obtain ⟨c1, c2, c3⟩ := z49 (k := k) (day := (d : Int)) (w := w) hla k.batches.length
        have c4 := z40 k (d : Int) l w k.batches.length
        change runSt k M cnt (d + 1) = (takeTo k (ordK k) (needL k r (cnt d)) (clrTo k (d : Int) l w k.batches.length).1 k.allerg.length).map fun c => (c, (clrTo k (d : Int) l w k.batches.length).2) at hst
        change runSt k M cnt (d + 1) = none → lastD k M cnt M.length = d ∧ endSt k M cnt = clrTo k (d : Int) l w k.batches.length at hsp
        obtain ⟨⟨C, v⟩, hC⟩ : ∃ a, a = clrTo k (d : Int) l w k.batches.length := ⟨_, rfl⟩
        rw [← hC] at h86 c1 c2 c3 c4 hst hsp
        dsimp only at c1 c2 c3 c4 hst
        have hAC : C = A0 := by
          have h0 : (l, w) = (amtK k, 0) := by rw [hz0] at hrun; exact (Option.some.inj hrun).symm
          rw [hA0, left0, clrD, ← h0]
          rw [hz0] at hC
          exact congrArg Prod.fst hC
        subst hAC
        have h87 := (z849 k hg r (cnt d) 84 [.ptr [.bnd f [.agg k.cells]] 0, .ptr [.i (d : Int)] 0] hday (fun j hj => z977 k f d j (cnt d j) (hf d j hdd (by omega)))).deep
        have h141 := z905 k (needL k r (cnt d)) C (ordK k) v (by omega) hbl c1 (z52 hg hday) (by rw [z44]; exact hgo.2) (fun x hx => z47 hx) (by rw [z91]; exact hbl)
        rw [z44] at h141
        simp only [lardRow] at h86
        rw [Kitchen.cells] at h87
        obtain ⟨N, hN⟩ : ∃ N, N = needL k r (cnt d) := ⟨_, rfl⟩
        rw [← hN] at h87 h141 hst
        repeat (first | refine z24 ?_ | refine z23 ?_ | refine z18 ?_ | refine z19 ?_ | refine z15 ?_ | refine z14 ?_)
        refine z10 fun K hK => ?_
        simp (maxSteps := 4000000) only [go_sem, g1, hni]
        refine hK _ ?_
        clear hK K
        refine z25 [7] ?_
        simp (maxSteps := 4000000) only [go_sem]
        repeat (first | refine z24 ?_ | refine z23 ?_ | refine z18 ?_ | refine z19 ?_ | refine z15 ?_ | refine z14 ?_)
        refine z10 fun K hK => ?_
        simp (maxSteps := 4000000) only [go_sem]
        refine ⟨_, .own (ns := [33, 34, 35]) (news := []) (bads := [34, 35]) (rd := []) (hf := h86) (hnd := by decide) (hl0 := rfl) (hl1 := rfl) (hm := by repeat (first | exact trivial | refine And.intro ?_ ?_ | rfl)) (hnew := rfl) (hla := rfl) (ha := z31 (by repeat (first | exact trivial | refine And.intro ?_ ?_ | exact z32 rfl | exact z27 rfl rfl))) (hrd := rfl) (hsh := z28 _) (hb := rfl) (hfl := .inl rfl), ?_⟩
        simp (maxSteps := 4000000) only [go_sem, List.map_cons, List.map_nil]
        refine hK _ ?_
        clear hK K
        cases htk : takeTo k (ordK k) N C k.allerg.length with
        | none =>
          rw [htk] at h141 hst
          obtain ⟨hD, hE⟩ := hsp hst
          simp only [takeBlks, lardRow, Option.isSome_none] at h141
          repeat (first | refine z24 ?_ | refine z23 ?_ | refine z18 ?_ | refine z19 ?_ | refine z15 ?_ | refine z14 ?_)
          refine z10 fun K hK => ?_
          simp (maxSteps := 4000000) only [go_sem]
          refine ⟨_, .given (hf := h87) (hd := rfl) (ha := rfl), ?_⟩
          simp (maxSteps := 4000000) only [go_sem]
          refine ⟨_, .own (ns := [33, 34, 35]) (news := []) (bads := [34, 35]) (rd := []) (hf := h141) (hnd := by decide) (hl0 := rfl) (hl1 := rfl) (hm := by repeat (first | exact trivial | refine And.intro ?_ ?_ | rfl)) (hnew := rfl) (hla := rfl) (ha := z31 (by repeat (first | exact trivial | refine And.intro ?_ ?_ | exact z32 rfl | exact z27 rfl rfl))) (hrd := rfl) (hsh := z28 _) (hb := rfl) (hfl := .inl rfl), ?_⟩
          simp (maxSteps := 4000000) only [go_sem, List.map_cons, List.map_nil]
          refine hK _ ?_
          clear hK K
          repeat (first | refine nx (by first | (constructor; done) | exact .other rfl) ?_ | (refine z10 fun K hK => ?_; simp (maxSteps := 4000000) only [go_sem]; refine hK _ ?_; clear hK K))
          repeat (first | refine z12 rfl ?_ | refine z11 rfl ?_ | refine nx (by first | (constructor; done) | exact .other rfl) ?_ | (refine z10 fun K hK => ?_; simp (maxSteps := 4000000) only [go_sem]; refine hK _ ?_; clear hK K))
          simp (maxSteps := 4000000) only [go_sem, retG, runBlks, lardRow, hD, hE, hLA, ← hA0]
        | some c =>
          rw [htk] at h141 hst
          simp only [takeBlks, lardRow, Option.isSome_some] at h141
          repeat (first | refine z24 ?_ | refine z23 ?_ | refine z18 ?_ | refine z19 ?_ | refine z15 ?_ | refine z14 ?_)
          refine z10 fun K hK => ?_
          simp (maxSteps := 4000000) only [go_sem]
          refine ⟨_, .given (hf := h87) (hd := rfl) (ha := rfl), ?_⟩
          simp (maxSteps := 4000000) only [go_sem]
          refine ⟨_, .own (ns := [33, 34, 35]) (news := [2]) (bads := [34, 35]) (rd := []) (hf := h141) (hnd := by decide) (hl0 := rfl) (hl1 := rfl) (hm := by repeat (first | exact trivial | refine And.intro ?_ ?_ | rfl)) (hnew := rfl) (hla := rfl) (ha := z31 (by repeat (first | exact trivial | refine And.intro ?_ ?_ | exact z32 rfl | exact z27 rfl rfl))) (hrd := rfl) (hsh := z28 _) (hb := rfl) (hfl := .inl rfl), ?_⟩
          simp (maxSteps := 4000000) only [go_sem, List.map_cons, List.map_nil]
          refine hK _ ?_
          clear hK K
          repeat (first | refine z12 rfl ?_ | refine z11 rfl ?_ | refine nx (by first | (constructor; done) | exact .other rfl) ?_ | (refine z10 fun K hK => ?_; simp (maxSteps := 4000000) only [go_sem, hw]; refine hK _ ?_; clear hK K))
          refine ⟨rfl, (d + 1, 2, c, v), ?_, ⟨hlt, hst, fun h => absurd (show 2 = 0 from h) (by decide), fun h => absurd (show d + 1 = 0 from h) (by omega), (by decide : 2 < 3)⟩, by dsimp only; omega⟩
          simp (maxSteps := 4000000) only [go_sem, nmL, lardRow]
          refine z13 [] ?_ ?_ rfl rfl <;> simp [lessT, lessM, lessB, AV.less]
          all_goals first | done | rfl | exact ⟨rfl, rfl⟩ | trace_state
      · have he : d = M.length := by (have : ¬ d < M.length := by simpa using hb); omega
        subst he
        exfalso
        omega
    · -- phase 1
      subst hp
      have hpos : d ≠ 0 := fun h => by have := hd0 h; omega
      have hLA := z105 hpos
      simp (maxSteps := 4000000) only [go_sem, nmL, lardRow]
      repeat (first | refine nx (by first | (constructor; done) | exact .other rfl) ?_ | (refine z10 fun K hK => ?_; simp (maxSteps := 4000000) only [go_sem]; refine hK _ ?_; clear hK K))
      refine z16 rfl (fun hb => ?_) (fun hb => ?_)
      · have hlt : d < M.length := by simpa using hb
        have hw : IntKind.i64.wrap ((d : Int) + 1) = ((d + 1 : Nat) : Int) := by rw [z20 (by omega)]; simp
        obtain ⟨r, hr⟩ : ∃ r, M[d]? = some r := ⟨_, List.getElem?_eq_getElem hlt⟩
        obtain ⟨hdd, hrl, hday⟩ := z117 hg hM hc hr
        have g1 := z35 hr
        have hni : ¬ ((d : Int) < 0) := by omega
        have hnd : needD k M cnt d = needL k r (cnt d) := by rw [needD, List.getD, hr]; rfl
        have hst := hstep hlt
        have hsp := hstop hlt
        rw [hnd] at hst
        have h86 := z850 k hbl (d : Int) l (ordK k) w hll hla ⟨hw0, hw2⟩
        obtain ⟨c1, c2, c3⟩ := z49 (k := k) (day := (d : Int)) (w := w) hla k.batches.length
        have c4 := z40 k (d : Int) l w k.batches.length
        change runSt k M cnt (d + 1) = (takeTo k (ordK k) (needL k r (cnt d)) (clrTo k (d : Int) l w k.batches.length).1 k.allerg.length).map fun c => (c, (clrTo k (d : Int) l w k.batches.length).2) at hst
        change runSt k M cnt (d + 1) = none → lastD k M cnt M.length = d ∧ endSt k M cnt = clrTo k (d : Int) l w k.batches.length at hsp
        obtain ⟨⟨C, v⟩, hC⟩ : ∃ a, a = clrTo k (d : Int) l w k.batches.length := ⟨_, rfl⟩
        rw [← hC] at h86 c1 c2 c3 c4 hst hsp
        dsimp only at c1 c2 c3 c4 hst
        have h87 := (z849 k hg r (cnt d) 84 [.ptr [.bnd f [.agg k.cells]] 0, .ptr [.i (d : Int)] 0] hday (fun j hj => z977 k f d j (cnt d j) (hf d j hdd (by omega)))).deep
        have h141 := z905 k (needL k r (cnt d)) C (ordK k) v (by omega) hbl c1 (z52 hg hday) (by rw [z44]; exact hgo.2) (fun x hx => z47 hx) (by rw [z91]; exact hbl)
        rw [z44] at h141
        simp only [lardRow] at h86
        rw [Kitchen.cells] at h87
        obtain ⟨N, hN⟩ : ∃ N, N = needL k r (cnt d) := ⟨_, rfl⟩
        rw [← hN] at h87 h141 hst
        repeat (first | refine z24 ?_ | refine z23 ?_ | refine z18 ?_ | refine z19 ?_ | refine z15 ?_ | refine z14 ?_)
        refine z10 fun K hK => ?_
        simp (maxSteps := 4000000) only [go_sem, g1, hni]
        refine hK _ ?_
        clear hK K
        refine z25 [7] ?_
        simp (maxSteps := 4000000) only [go_sem]
        repeat (first | refine z24 ?_ | refine z23 ?_ | refine z18 ?_ | refine z19 ?_ | refine z15 ?_ | refine z14 ?_)
        refine z10 fun K hK => ?_
        simp (maxSteps := 4000000) only [go_sem]
        refine ⟨_, .own (ns := [33, 1, 35]) (news := []) (bads := [1, 35]) (rd := []) (hf := h86) (hnd := by decide) (hl0 := rfl) (hl1 := rfl) (hm := by repeat (first | exact trivial | refine And.intro ?_ ?_ | rfl)) (hnew := rfl) (hla := rfl) (ha := z31 (by repeat (first | exact trivial | refine And.intro ?_ ?_ | exact z32 rfl | exact z27 rfl rfl))) (hrd := rfl) (hsh := z28 _) (hb := rfl) (hfl := .inl rfl), ?_⟩
        simp (maxSteps := 4000000) only [go_sem, List.map_cons, List.map_nil]
        refine hK _ ?_
        clear hK K
        cases htk : takeTo k (ordK k) N C k.allerg.length with
        | none =>
          rw [htk] at h141 hst
          obtain ⟨hD, hE⟩ := hsp hst
          simp only [takeBlks, lardRow, Option.isSome_none] at h141
          repeat (first | refine z24 ?_ | refine z23 ?_ | refine z18 ?_ | refine z19 ?_ | refine z15 ?_ | refine z14 ?_)
          refine z10 fun K hK => ?_
          simp (maxSteps := 4000000) only [go_sem]
          refine ⟨_, .given (hf := h87) (hd := rfl) (ha := rfl), ?_⟩
          simp (maxSteps := 4000000) only [go_sem]
          refine ⟨_, .own (ns := [33, 1, 35]) (news := []) (bads := [1, 35]) (rd := []) (hf := h141) (hnd := by decide) (hl0 := rfl) (hl1 := rfl) (hm := by repeat (first | exact trivial | refine And.intro ?_ ?_ | rfl)) (hnew := rfl) (hla := rfl) (ha := z31 (by repeat (first | exact trivial | refine And.intro ?_ ?_ | exact z32 rfl | exact z27 rfl rfl))) (hrd := rfl) (hsh := z28 _) (hb := rfl) (hfl := .inl rfl), ?_⟩
          simp (maxSteps := 4000000) only [go_sem, List.map_cons, List.map_nil]
          refine hK _ ?_
          clear hK K
          repeat (first | refine nx (by first | (constructor; done) | exact .other rfl) ?_ | (refine z10 fun K hK => ?_; simp (maxSteps := 4000000) only [go_sem]; refine hK _ ?_; clear hK K))
          refine z25 [1] ?_
          simp (maxSteps := 4000000) only [go_sem]
          repeat (first | refine z12 rfl ?_ | refine z11 rfl ?_ | refine nx (by first | (constructor; done) | exact .other rfl) ?_ | (refine z10 fun K hK => ?_; simp (maxSteps := 4000000) only [go_sem]; refine hK _ ?_; clear hK K))
          simp (maxSteps := 4000000) only [go_sem, retG, runBlks, lardRow, hD, hE, hLA, ← hA0]
        | some c =>
          rw [htk] at h141 hst
          simp only [takeBlks, lardRow, Option.isSome_some] at h141
          repeat (first | refine z24 ?_ | refine z23 ?_ | refine z18 ?_ | refine z19 ?_ | refine z15 ?_ | refine z14 ?_)
          refine z10 fun K hK => ?_
          simp (maxSteps := 4000000) only [go_sem]
          refine ⟨_, .given (hf := h87) (hd := rfl) (ha := rfl), ?_⟩
          simp (maxSteps := 4000000) only [go_sem]
          refine ⟨_, .own (ns := [33, 1, 35]) (news := [2]) (bads := [1, 35]) (rd := []) (hf := h141) (hnd := by decide) (hl0 := rfl) (hl1 := rfl) (hm := by repeat (first | exact trivial | refine And.intro ?_ ?_ | rfl)) (hnew := rfl) (hla := rfl) (ha := z31 (by repeat (first | exact trivial | refine And.intro ?_ ?_ | exact z32 rfl | exact z27 rfl rfl))) (hrd := rfl) (hsh := z28 _) (hb := rfl) (hfl := .inl rfl), ?_⟩
          simp (maxSteps := 4000000) only [go_sem, List.map_cons, List.map_nil]
          refine hK _ ?_
          clear hK K
          repeat (first | refine z12 rfl ?_ | refine z11 rfl ?_ | refine nx (by first | (constructor; done) | exact .other rfl) ?_ | (refine z10 fun K hK => ?_; simp (maxSteps := 4000000) only [go_sem, hw]; refine hK _ ?_; clear hK K))
          refine ⟨rfl, (d + 1, 2, c, v), ?_, ⟨hlt, hst, fun h => absurd (show 2 = 0 from h) (by decide), fun h => absurd (show d + 1 = 0 from h) (by omega), (by decide : 2 < 3)⟩, by dsimp only; omega⟩
          simp (maxSteps := 4000000) only [go_sem, nmL, lardRow]
          refine z13 [] ?_ ?_ rfl rfl <;> simp [lessT, lessM, lessB, AV.less]
          all_goals first | done | rfl | exact ⟨rfl, rfl⟩ | trace_state
      · have he : d = M.length := by (have : ¬ d < M.length := by simpa using hb); omega
        subst he
        obtain ⟨hD, hE⟩ := hlast rfl
        refine z25 [1] ?_
        simp (maxSteps := 4000000) only [go_sem]
        repeat (first | refine nx (by first | (constructor; done) | exact .other rfl) ?_ | (refine z10 fun K hK => ?_; simp (maxSteps := 4000000) only [go_sem]; refine hK _ ?_; clear hK K))
        simp (maxSteps := 4000000) only [go_sem, retG, runBlks, lardRow, hD, hE, hLA, ← hA0]
    · -- phase 2
      subst hp
      have hpos : d ≠ 0 := fun h => by have := hd0 h; omega
      have hLA := z105 hpos
      simp (maxSteps := 4000000) only [go_sem, nmL, lardRow]
      repeat (first | refine nx (by first | (constructor; done) | exact .other rfl) ?_ | (refine z10 fun K hK => ?_; simp (maxSteps := 4000000) only [go_sem]; refine hK _ ?_; clear hK K))
      refine z16 rfl (fun hb => ?_) (fun hb => ?_)
      · have hlt : d < M.length := by simpa using hb
        have hw : IntKind.i64.wrap ((d : Int) + 1) = ((d + 1 : Nat) : Int) := by rw [z20 (by omega)]; simp
        obtain ⟨r, hr⟩ : ∃ r, M[d]? = some r := ⟨_, List.getElem?_eq_getElem hlt⟩
        obtain ⟨hdd, hrl, hday⟩ := z117 hg hM hc hr
        have g1 := z35 hr
        have hni : ¬ ((d : Int) < 0) := by omega
        have hnd : needD k M cnt d = needL k r (cnt d) := by rw [needD, List.getD, hr]; rfl
        have hst := hstep hlt
        have hsp := hstop hlt
        rw [hnd] at hst
        have h86 := z850 k hbl (d : Int) l (ordK k) w hll hla ⟨hw0, hw2⟩
        obtain ⟨c1, c2, c3⟩ := z49 (k := k) (day := (d : Int)) (w := w) hla k.batches.length
        have c4 := z40 k (d : Int) l w k.batches.length
        change runSt k M cnt (d + 1) = (takeTo k (ordK k) (needL k r (cnt d)) (clrTo k (d : Int) l w k.batches.length).1 k.allerg.length).map fun c => (c, (clrTo k (d : Int) l w k.batches.length).2) at hst
        change runSt k M cnt (d + 1) = none → lastD k M cnt M.length = d ∧ endSt k M cnt = clrTo k (d : Int) l w k.batches.length at hsp
        obtain ⟨⟨C, v⟩, hC⟩ : ∃ a, a = clrTo k (d : Int) l w k.batches.length := ⟨_, rfl⟩
        rw [← hC] at h86 c1 c2 c3 c4 hst hsp
        dsimp only at c1 c2 c3 c4 hst
        have h87 := (z849 k hg r (cnt d) 84 [.ptr [.bnd f [.agg k.cells]] 0, .ptr [.i (d : Int)] 0] hday (fun j hj => z977 k f d j (cnt d j) (hf d j hdd (by omega)))).deep
        have h141 := z905 k (needL k r (cnt d)) C (ordK k) v (by omega) hbl c1 (z52 hg hday) (by rw [z44]; exact hgo.2) (fun x hx => z47 hx) (by rw [z91]; exact hbl)
        rw [z44] at h141
        simp only [lardRow] at h86
        rw [Kitchen.cells] at h87
        obtain ⟨N, hN⟩ : ∃ N, N = needL k r (cnt d) := ⟨_, rfl⟩
        rw [← hN] at h87 h141 hst
        repeat (first | refine z24 ?_ | refine z23 ?_ | refine z18 ?_ | refine z19 ?_ | refine z15 ?_ | refine z14 ?_)
        refine z10 fun K hK => ?_
        simp (maxSteps := 4000000) only [go_sem, g1, hni]
        refine hK _ ?_
        clear hK K
        refine z25 [7] ?_
        simp (maxSteps := 4000000) only [go_sem]
        repeat (first | refine z24 ?_ | refine z23 ?_ | refine z18 ?_ | refine z19 ?_ | refine z15 ?_ | refine z14 ?_)
        refine z10 fun K hK => ?_
        simp (maxSteps := 4000000) only [go_sem]
        refine ⟨_, .own (ns := [33, 2, 35]) (news := []) (bads := [2, 35]) (rd := []) (hf := h86) (hnd := by decide) (hl0 := rfl) (hl1 := rfl) (hm := by repeat (first | exact trivial | refine And.intro ?_ ?_ | rfl)) (hnew := rfl) (hla := rfl) (ha := z31 (by repeat (first | exact trivial | refine And.intro ?_ ?_ | exact z32 rfl | exact z27 rfl rfl))) (hrd := rfl) (hsh := z28 _) (hb := rfl) (hfl := .inl rfl), ?_⟩
        simp (maxSteps := 4000000) only [go_sem, List.map_cons, List.map_nil]
        refine hK _ ?_
        clear hK K
        cases htk : takeTo k (ordK k) N C k.allerg.length with
        | none =>
          rw [htk] at h141 hst
          obtain ⟨hD, hE⟩ := hsp hst
          simp only [takeBlks, lardRow, Option.isSome_none] at h141
          repeat (first | refine z24 ?_ | refine z23 ?_ | refine z18 ?_ | refine z19 ?_ | refine z15 ?_ | refine z14 ?_)
          refine z10 fun K hK => ?_
          simp (maxSteps := 4000000) only [go_sem]
          refine ⟨_, .given (hf := h87) (hd := rfl) (ha := rfl), ?_⟩
          simp (maxSteps := 4000000) only [go_sem]
          refine ⟨_, .own (ns := [33, 2, 35]) (news := []) (bads := [2, 35]) (rd := []) (hf := h141) (hnd := by decide) (hl0 := rfl) (hl1 := rfl) (hm := by repeat (first | exact trivial | refine And.intro ?_ ?_ | rfl)) (hnew := rfl) (hla := rfl) (ha := z31 (by repeat (first | exact trivial | refine And.intro ?_ ?_ | exact z32 rfl | exact z27 rfl rfl))) (hrd := rfl) (hsh := z28 _) (hb := rfl) (hfl := .inl rfl), ?_⟩
          simp (maxSteps := 4000000) only [go_sem, List.map_cons, List.map_nil]
          refine hK _ ?_
          clear hK K
          repeat (first | refine nx (by first | (constructor; done) | exact .other rfl) ?_ | (refine z10 fun K hK => ?_; simp (maxSteps := 4000000) only [go_sem]; refine hK _ ?_; clear hK K))
          refine z25 [2] ?_
          simp (maxSteps := 4000000) only [go_sem]
          repeat (first | refine z12 rfl ?_ | refine z11 rfl ?_ | refine nx (by first | (constructor; done) | exact .other rfl) ?_ | (refine z10 fun K hK => ?_; simp (maxSteps := 4000000) only [go_sem]; refine hK _ ?_; clear hK K))
          simp (maxSteps := 4000000) only [go_sem, retG, runBlks, lardRow, hD, hE, hLA, ← hA0]
        | some c =>
          rw [htk] at h141 hst
          simp only [takeBlks, lardRow, Option.isSome_some] at h141
          repeat (first | refine z24 ?_ | refine z23 ?_ | refine z18 ?_ | refine z19 ?_ | refine z15 ?_ | refine z14 ?_)
          refine z10 fun K hK => ?_
          simp (maxSteps := 4000000) only [go_sem]
          refine ⟨_, .given (hf := h87) (hd := rfl) (ha := rfl), ?_⟩
          simp (maxSteps := 4000000) only [go_sem]
          refine ⟨_, .own (ns := [33, 2, 35]) (news := [1]) (bads := [2, 35]) (rd := []) (hf := h141) (hnd := by decide) (hl0 := rfl) (hl1 := rfl) (hm := by repeat (first | exact trivial | refine And.intro ?_ ?_ | rfl)) (hnew := rfl) (hla := rfl) (ha := z31 (by repeat (first | exact trivial | refine And.intro ?_ ?_ | exact z32 rfl | exact z27 rfl rfl))) (hrd := rfl) (hsh := z28 _) (hb := rfl) (hfl := .inl rfl), ?_⟩
          simp (maxSteps := 4000000) only [go_sem, List.map_cons, List.map_nil]
          refine hK _ ?_
          clear hK K
          repeat (first | refine z12 rfl ?_ | refine z11 rfl ?_ | refine nx (by first | (constructor; done) | exact .other rfl) ?_ | (refine z10 fun K hK => ?_; simp (maxSteps := 4000000) only [go_sem, hw]; refine hK _ ?_; clear hK K))
          refine ⟨rfl, (d + 1, 1, c, v), ?_, ⟨hlt, hst, fun h => absurd (show 1 = 0 from h) (by decide), fun h => absurd (show d + 1 = 0 from h) (by omega), (by decide : 1 < 3)⟩, by dsimp only; omega⟩
          simp (maxSteps := 4000000) only [go_sem, nmL, lardRow]
          refine z13 [] ?_ ?_ rfl rfl <;> simp [lessT, lessM, lessB, AV.less]
          all_goals first | done | rfl | exact ⟨rfl, rfl⟩ | trace_state
      · have he : d = M.length := by (have : ¬ d < M.length := by simpa using hb); omega
        subst he
        obtain ⟨hD, hE⟩ := hlast rfl
        refine z25 [2] ?_
        simp (maxSteps := 4000000) only [go_sem]
        repeat (first | refine nx (by first | (constructor; done) | exact .other rfl) ?_ | (refine z10 fun K hK => ?_; simp (maxSteps := 4000000) only [go_sem]; refine hK _ ?_; clear hK K))
        simp (maxSteps := 4000000) only [go_sem, retG, runBlks, lardRow, hD, hE, hLA, ← hA0]
end Go.Ab
namespace Go.Ab
open Go.RowKit Go.Proofs
set_option maxHeartbeats 16000000
set_option maxRecDepth 20000
attribute [local irreducible] WalkL Walk
def sel (b : Bool) (d : DV) : AV := bif b then .undef else .d d
@[go_sem] theorem sel_true (d : DV) : sel true d = .undef := rfl
@[go_sem] theorem sel_false (d : DV) : sel false d = .d d := rfl
@[go_sem] theorem sel_mapN (h : Nat → Option Nat) (b : Bool) (d : DV) : AV.mapN h (sel b d) = sel b d := by cases b <;> simp [sel, AV.mapN]
@[go_sem] theorem sel_sub (n : Nat) (h : AV → AV) (b : Bool) (d : DV) : AV.sub n h (sel b d) = sel b d := by cases b <;> simp [sel, AV.sub]
def stB (a b : Bool) (x y : Blk) : Option Blk := bif a then none else some (bif b then x else y)
@[go_sem] theorem stB_t (b : Bool) (x y : Blk) : stB true b x y = none := rfl
@[go_sem] theorem stB_ft (x y : Blk) : stB false true x y = some x := rfl
@[go_sem] theorem stB_ff (x y : Blk) : stB false false x y = some y := rfl
def mostK (k : Kitchen) (M : List (List Int)) : Nat := lastD k M (fun d g => (dinAt k d g).count.hi) M.length
def leastK (k : Kitchen) (M : List (List Int)) : Nat := lastD k M (fun d g => (dinAt k d g).count.lo) M.length
theorem z1054 (k : Kitchen) (M : List (List Int)) (hs : KitSmall k) (hM : M.length < 2 ^ 30) (hMr : ∀ r ∈ M, r.length < 2 ^ 30) :
    Fn Try.prog 27 [.agg k.cells, .sl (listRows M)] (.tup (if openK k M = 0 then [.i (mostK k M), .i (leastK k M), .i 0] else [.i 0, .i 0, .i (openK k M)])) := by
  have h84 := z983 k M hs hM hMr
  rw [Kitchen.cells] at h84
  by_cases h0 : openK k M = 0
  · rw [if_pos h0]
    have hg : KitGood k := by
      unfold openK at h0
      split at h0
      · rename_i hz; exact z115 (z106.1 hz)
      · contradiction
    have hsh : shapedB (menuB k) M k.days = true := by
      unfold openK at h0
      split at h0
      · split at h0
        · assumption
        · cases h0
      · contradiction
    rw [h0] at h84
    have h85 := z947 k hg.batches
    change FnG Try.prog 41 [] [] (List.map AV.d [.agg k.cells]) _ _ at h85
    have hhi := (z1003 k hg M hsh _ _ (z891 hg) (fun d g hd hgl => z970 k d g hd hgl)).boxNil
    have hlo := (z1003 k hg M hsh _ _ (z994 hg) (fun d g hd hgl => z1044 k d g hd hgl)).boxNil
    change FnG Try.prog 55 _ _ _ (.d (.i (mostK k M : Nat))) _ at hhi
    change FnG Try.prog 55 _ _ _ (.d (.i (leastK k M : Nat))) _ at hlo
    obtain ⟨hi, hhi'⟩ : ∃ n, n = mostK k M := ⟨_, rfl⟩
    obtain ⟨lo, hlo'⟩ : ∃ n, n = leastK k M := ⟨_, rfl⟩
    rw [← hhi'] at hhi ⊢
    rw [← hlo'] at hlo ⊢
    refine z22 29 Try.call27 Try.func27 rfl (by decide) fun J => ?_
    simp (maxSteps := 4000000) only [go_sem, St.start, Try.ntmps27, Try.results27, Kitchen.cells]
    repeat (first | refine z12 rfl ?_ | refine z11 rfl ?_ | refine nx (by first | (constructor; done) | exact .other rfl) ?_ | (refine z10 fun K hK => ?_; simp (maxSteps := 4000000) only [go_sem]; (repeat (first | (refine ⟨_, .lent (hf := h84) (hd := rfl) (hr := rfl), ?_⟩; simp (maxSteps := 4000000) only [go_sem]) | (refine ⟨_, .given (hf := h84) (hd := rfl) (ha := rfl), ?_⟩; simp (maxSteps := 4000000) only [go_sem]))); refine hK _ ?_; clear hK K))
    have hcl : k.cells.length = 4 := rfl
    have hct : k.cells.take 4 = k.cells := rfl
    refine z25 [2, 7] ?_
    simp (maxSteps := 4000000) only [go_sem]
    refine z72 [2, 3, 8, 9, 10, 11, 12, 13, 14, 15, 16] ?_ ?_
    · simp (maxSteps := 4000000) only [go_sem]
      refine z13 [] ?_ ?_ rfl rfl <;> simp [lessT, lessM, lessB, AV.less]
    simp (maxSteps := 4000000) only [go_sem]
    refine z245 (by kernel_rfl) (by kernel_rfl) (fun m => ⟨[.d (.agg k.cells), .d (.sl (listRows M)), .undef, .undef, .d (bif m 12 then .i 0 else .i (hi : Nat)), .d (bif m 13 then .i 0 else .i (lo : Nat)), .d (.i 0), .d (.ptr k.cells 0), .undef, .undef, .undef, .undef, .undef, .undef, .undef, .undef, .undef,
        sel (m 0) (.agg k.cells), bif m 1 then .undef else .box 9 0, sel (m 2) (.sl (listRows M)), sel (m 3) (.agg k.cells), sel (m 4) (.bnd 46 [.agg k.cells]), sel (m 5) (.i (hi : Nat)), sel (m 6) (.agg k.cells), bif m 7 then .undef else .box 12 0, sel (m 8) (.sl (listRows M)), sel (m 9) (.agg k.cells), sel (m 10) (.bnd 57 [.agg k.cells]), sel (m 11) (.i (lo : Nat))],
      [none, none, none, none, none, none, none, none, none, stB (m 1) (m 5) (.box (lardRow k (.own 10) (.own 11) 0)) (.box []), stB (m 1) (m 5) (.arr 3 1 (intRows (amtK k))) (.arr 3 1 (intRows (left0 k))), stB (m 1) (m 5) (.arr 3 1 (natRows (ordK k))) (.arr 3 1 (natRows (ordK k))),
        stB (m 7) (m 11) (.box (lardRow k (.own 13) (.own 14) 0)) (.box []), stB (m 7) (m 11) (.arr 3 1 (intRows (amtK k))) (.arr 3 1 (intRows (left0 k))), stB (m 7) (m 11) (.arr 3 1 (natRows (ordK k))) (.arr 3 1 (natRows (ordK k))), none, none, none, none, none, none, none, none, none, none, none, none, none, none]⟩) ?_ ?_ ?_
    · simp (maxSteps := 4000000) only [go_sem]
      rfl
    · refine ⟨fun m hm hd hc => ?_, fun m hm hd hc => ?_, fun m hm hd hc => ?_, fun m hm hd hc => ?_, fun m hm hd hc => ?_, fun m hm hd hc => ?_, fun m hm hd hc => ?_, fun m hm hd hc => ?_, fun m hm hd hc => ?_, fun m hm hd hc => ?_, fun m hm hd hc => ?_, fun m hm hd hc => ?_, fun m hm hd hc => ?_, fun m hm hd hc => ?_, fun m hm hd hc => ?_, trivial⟩
      · simp only [closedM, depsM, Region.binds, true_and, and_true, Nat.zero_add, Nat.reduceAdd, reduceCtorEq, forall_const] at hc hd
        cases h1 : m 1 <;> cases h5 : m 5 <;> cases h7 : m 7 <;> cases h11 : m 11 <;> simp [h1, h5, h7, h11, hm] at hc hd
        all_goals
          refine ⟨rfl, rfl, ?_⟩
          simp (maxSteps := 4000000) only [go_sem, hm, hd, h1, h5, h7, h11, hcl, hct]
      · simp only [closedM, depsM, Region.binds, true_and, and_true, Nat.zero_add, Nat.reduceAdd, reduceCtorEq, forall_const] at hc hd
        have h1 := hm
        cases h5 : m 5 <;> cases h7 : m 7 <;> cases h11 : m 11 <;> simp [h1, h5, h7, h11, hm] at hc hd
        all_goals
          refine ⟨rfl, rfl, ?_⟩
          simp (maxSteps := 4000000) only [go_sem, hm, hd, h1, h5, h7, h11, hcl, hct]
        refine ⟨_, .made (news := [9, 10, 11]) (hf := h85) (hd := rfl) (hn := by decide) (hl := rfl) (hnew := rfl) (hx := rfl), ?_⟩
        simp (maxSteps := 4000000) only [go_sem, List.map_cons, List.map_nil, lardRow]
      · simp only [closedM, depsM, Region.binds, true_and, and_true, Nat.zero_add, Nat.reduceAdd, reduceCtorEq, forall_const] at hc hd
        cases h1 : m 1 <;> cases h5 : m 5 <;> cases h7 : m 7 <;> cases h11 : m 11 <;> simp [h1, h5, h7, h11, hm] at hc hd
        all_goals
          refine ⟨rfl, rfl, ?_⟩
          simp (maxSteps := 4000000) only [go_sem, hm, hd, h1, h5, h7, h11, hcl, hct]
      · simp only [closedM, depsM, Region.binds, true_and, and_true, Nat.zero_add, Nat.reduceAdd, reduceCtorEq, forall_const] at hc hd
        cases h1 : m 1 <;> cases h5 : m 5 <;> cases h7 : m 7 <;> cases h11 : m 11 <;> simp [h1, h5, h7, h11, hm] at hc hd
        all_goals
          refine ⟨rfl, rfl, ?_⟩
          simp (maxSteps := 4000000) only [go_sem, hm, hd, h1, h5, h7, h11, hcl, hct]
      · simp only [closedM, depsM, Region.binds, true_and, and_true, Nat.zero_add, Nat.reduceAdd, reduceCtorEq, forall_const] at hc hd
        cases h1 : m 1 <;> cases h5 : m 5 <;> cases h7 : m 7 <;> cases h11 : m 11 <;> simp [h1, h5, h7, h11, hm] at hc hd
        all_goals
          refine ⟨rfl, rfl, ?_⟩
          simp (maxSteps := 4000000) only [go_sem, hm, hd, h1, h5, h7, h11, hcl, hct]
      · simp only [closedM, depsM, Region.binds, true_and, and_true, Nat.zero_add, Nat.reduceAdd, reduceCtorEq, forall_const] at hc hd
        have h5 := hm
        cases h1 : m 1 <;> cases h7 : m 7 <;> cases h11 : m 11 <;> simp [h1, h5, h7, h11, hm] at hc hd
        all_goals
          refine ⟨rfl, rfl, ?_⟩
          simp (maxSteps := 4000000) only [go_sem, hm, hd, h1, h5, h7, h11, hcl, hct]
        simp (maxSteps := 4000000) only [go_sem, lardRow]
        refine ⟨_, .own (ns := [9, 10, 11]) (news := []) (bads := [10, 11]) (rd := []) (hf := hhi) (hnd := by decide) (hl0 := rfl) (hl1 := rfl) (hm := by repeat (first | exact trivial | refine And.intro ?_ ?_ | rfl)) (hnew := rfl) (hla := rfl) (ha := z31 (by repeat (first | exact trivial | refine And.intro ?_ ?_ | exact z32 rfl | exact z27 rfl rfl))) (hrd := rfl) (hsh := z28 _) (hb := rfl) (hfl := .inl rfl), ?_⟩
        simp (maxSteps := 4000000) only [go_sem, List.map_cons, List.map_nil, lardRow]
      · simp only [closedM, depsM, Region.binds, true_and, and_true, Nat.zero_add, Nat.reduceAdd, reduceCtorEq, forall_const] at hc hd
        cases h1 : m 1 <;> cases h5 : m 5 <;> cases h7 : m 7 <;> cases h11 : m 11 <;> simp [h1, h5, h7, h11, hm] at hc hd
        all_goals
          refine ⟨rfl, rfl, ?_⟩
          simp (maxSteps := 4000000) only [go_sem, hm, hd, h1, h5, h7, h11, hcl, hct]
      · simp only [closedM, depsM, Region.binds, true_and, and_true, Nat.zero_add, Nat.reduceAdd, reduceCtorEq, forall_const] at hc hd
        have h7 := hm
        cases h1 : m 1 <;> cases h5 : m 5 <;> cases h11 : m 11 <;> simp [h1, h5, h7, h11, hm] at hc hd
        all_goals
          refine ⟨rfl, rfl, ?_⟩
          simp (maxSteps := 4000000) only [go_sem, hm, hd, h1, h5, h7, h11, hcl, hct]
        refine ⟨_, .made (news := [12, 13, 14]) (hf := h85) (hd := rfl) (hn := by decide) (hl := rfl) (hnew := rfl) (hx := rfl), ?_⟩
        simp (maxSteps := 4000000) only [go_sem, List.map_cons, List.map_nil, lardRow]
      · simp only [closedM, depsM, Region.binds, true_and, and_true, Nat.zero_add, Nat.reduceAdd, reduceCtorEq, forall_const] at hc hd
        cases h1 : m 1 <;> cases h5 : m 5 <;> cases h7 : m 7 <;> cases h11 : m 11 <;> simp [h1, h5, h7, h11, hm] at hc hd
        all_goals
          refine ⟨rfl, rfl, ?_⟩
          simp (maxSteps := 4000000) only [go_sem, hm, hd, h1, h5, h7, h11, hcl, hct]
      · simp only [closedM, depsM, Region.binds, true_and, and_true, Nat.zero_add, Nat.reduceAdd, reduceCtorEq, forall_const] at hc hd
        cases h1 : m 1 <;> cases h5 : m 5 <;> cases h7 : m 7 <;> cases h11 : m 11 <;> simp [h1, h5, h7, h11, hm] at hc hd
        all_goals
          refine ⟨rfl, rfl, ?_⟩
          simp (maxSteps := 4000000) only [go_sem, hm, hd, h1, h5, h7, h11, hcl, hct]
      · simp only [closedM, depsM, Region.binds, true_and, and_true, Nat.zero_add, Nat.reduceAdd, reduceCtorEq, forall_const] at hc hd
        cases h1 : m 1 <;> cases h5 : m 5 <;> cases h7 : m 7 <;> cases h11 : m 11 <;> simp [h1, h5, h7, h11, hm] at hc hd
        all_goals
          refine ⟨rfl, rfl, ?_⟩
          simp (maxSteps := 4000000) only [go_sem, hm, hd, h1, h5, h7, h11, hcl, hct]
      · simp only [closedM, depsM, Region.binds, true_and, and_true, Nat.zero_add, Nat.reduceAdd, reduceCtorEq, forall_const] at hc hd
        have h11 := hm
        cases h1 : m 1 <;> cases h5 : m 5 <;> cases h7 : m 7 <;> simp [h1, h5, h7, h11, hm] at hc hd
        all_goals
          refine ⟨rfl, rfl, ?_⟩
          simp (maxSteps := 4000000) only [go_sem, hm, hd, h1, h5, h7, h11, hcl, hct]
        simp (maxSteps := 4000000) only [go_sem, lardRow]
        refine ⟨_, .own (ns := [12, 13, 14]) (news := []) (bads := [13, 14]) (rd := []) (hf := hlo) (hnd := by decide) (hl0 := rfl) (hl1 := rfl) (hm := by repeat (first | exact trivial | refine And.intro ?_ ?_ | rfl)) (hnew := rfl) (hla := rfl) (ha := z31 (by repeat (first | exact trivial | refine And.intro ?_ ?_ | exact z32 rfl | exact z27 rfl rfl))) (hrd := rfl) (hsh := z28 _) (hb := rfl) (hfl := .inl rfl), ?_⟩
        simp (maxSteps := 4000000) only [go_sem, List.map_cons, List.map_nil, lardRow]
      · simp only [closedM, depsM, Region.binds, true_and, and_true, Nat.zero_add, Nat.reduceAdd, reduceCtorEq, forall_const] at hc hd
        cases h1 : m 1 <;> cases h5 : m 5 <;> cases h7 : m 7 <;> cases h11 : m 11 <;> simp [h1, h5, h7, h11, hm] at hc hd
        all_goals
          refine ⟨rfl, rfl, ?_⟩
          simp (maxSteps := 4000000) only [go_sem, hm, hd, h1, h5, h7, h11, hcl, hct]
      · simp only [closedM, depsM, Region.binds, true_and, and_true, Nat.zero_add, Nat.reduceAdd, reduceCtorEq, forall_const] at hc hd
        cases h1 : m 1 <;> cases h5 : m 5 <;> cases h7 : m 7 <;> cases h11 : m 11 <;> simp [h1, h5, h7, h11, hm] at hc hd
        all_goals
          refine ⟨rfl, rfl, ?_⟩
          simp (maxSteps := 4000000) only [go_sem, hm, hd, h1, h5, h7, h11, hcl, hct]
      · simp only [closedM, depsM, Region.binds, true_and, and_true, Nat.zero_add, Nat.reduceAdd, reduceCtorEq, forall_const] at hc hd
        cases h1 : m 1 <;> cases h5 : m 5 <;> cases h7 : m 7 <;> cases h11 : m 11 <;> simp [h1, h5, h7, h11, hm] at hc hd
        all_goals
          refine ⟨rfl, rfl, ?_⟩
          simp (maxSteps := 4000000) only [go_sem, hm, hd, h1, h5, h7, h11, hcl, hct]
    · simp (maxSteps := 4000000) only [go_sem]
      repeat (first | refine nx (by first | (constructor; done) | exact .other rfl) ?_ | (refine z10 fun K hK => ?_; simp (maxSteps := 4000000) only [go_sem]; refine hK _ ?_; clear hK K))
      simp (maxSteps := 4000000) only [go_sem]
  · rw [if_neg h0]
    have hz : (openK k M != 0) = true := by simpa using h0
    obtain ⟨e, he⟩ : ∃ e, e = openK k M := ⟨_, rfl⟩
    rw [← he] at h84 hz ⊢
    refine z22 29 Try.call27 Try.func27 rfl (by decide) fun J => ?_
    simp (maxSteps := 4000000) only [go_sem, St.start, Try.ntmps27, Try.results27, Kitchen.cells]
    repeat (first | refine z12 rfl ?_ | refine z11 rfl ?_ | refine nx (by first | (constructor; done) | exact .other rfl) ?_ | (refine z10 fun K hK => ?_; simp (maxSteps := 4000000) only [go_sem, hz]; (repeat (first | (refine ⟨_, .lent (hf := h84) (hd := rfl) (hr := rfl), ?_⟩; simp (maxSteps := 4000000) only [go_sem, hz]) | (refine ⟨_, .given (hf := h84) (hd := rfl) (ha := rfl), ?_⟩; simp (maxSteps := 4000000) only [go_sem, hz]))); refine hK _ ?_; clear hK K))
    simp (maxSteps := 4000000) only [go_sem]
end Go.Ab
namespace Go.Ab
open Go.RowKit Go.Proofs
set_option maxHeartbeats 16000000
set_option maxRecDepth 20000
attribute [local irreducible] WalkL Walk
def ordG (k : Kitchen) (o : List Nat) (needs : List Int) (a : List Int × List Int) : Nat → List Int × List Int
  | 0 => a
  | g + 1 => ((takeG k o g (ordG k o needs a g).1 (getI needs (g : Int))).1, (ordG k o needs a g).2.set g (getI (ordG k o needs a g).2 (g : Int) + (takeG k o g (ordG k o needs a g).1 (getI needs (g : Int))).2))
def hiC (k : Kitchen) (d g : Nat) : Int := (dinAt k d g).count.hi
def ordD (k : Kitchen) (M : List (List Int)) : Nat → List Int × List Int × Int
  | 0 => (amtK k, List.replicate k.allerg.length 0, 0)
  | d + 1 => ((ordG k (ordK k) (needD k M (hiC k) d) ((clrTo k (d : Int) (ordD k M d).1 (ordD k M d).2.2 k.batches.length).1, (ordD k M d).2.1) k.allerg.length).1,
      (ordG k (ordK k) (needD k M (hiC k) d) ((clrTo k (d : Int) (ordD k M d).1 (ordD k M d).2.2 k.batches.length).1, (ordD k M d).2.1) k.allerg.length).2,
      (clrTo k (d : Int) (ordD k M d).1 (ordD k M d).2.2 k.batches.length).2)
def orderK (k : Kitchen) (M : List (List Int)) : List Int := (ordD k M M.length).2.1
def BuyOk (n : Int) (l : List Int) : Prop := ∀ x ∈ l, 0 ≤ x ∧ x ≤ n
theorem z806 {k : Kitchen} {o : List Nat} {needs : List Int} {a : List Int × List Int} {B : Int} (h : AmtOk a.1) (hb : BuyOk B a.2) (hB : 0 ≤ B) (hn : ∀ x ∈ needs, 0 ≤ x ∧ x ≤ 2 ^ 40) (g : Nat) :
    AmtOk (ordG k o needs a g).1 ∧ (ordG k o needs a g).1.length = a.1.length ∧ BuyOk (B + 2 ^ 40) (ordG k o needs a g).2 ∧ (ordG k o needs a g).2.length = a.2.length ∧ ∀ i : Nat, g ≤ i → getI (ordG k o needs a g).2 (i : Int) = getI a.2 (i : Int) := by
  induction g with
  | zero => exact ⟨h, rfl, fun x hx => by have := hb x hx; omega, rfl, fun _ _ => rfl⟩
  | succ g ih =>
    obtain ⟨h1, h2, h3, h4, h5⟩ := ih
    have hng : 0 ≤ getI needs (g : Int) ∧ getI needs (g : Int) ≤ 2 ^ 40 := z141 hn (by decide) _
    have ht := z195 (k := k) (good := g) o (a := ((ordG k o needs a g).1, getI needs (g : Int))) h1 hng.1
    change AmtOk (takeG k o g (ordG k o needs a g).1 (getI needs (g : Int))).1 ∧ (takeG k o g (ordG k o needs a g).1 (getI needs (g : Int))).1.length = (ordG k o needs a g).1.length ∧ 0 ≤ (takeG k o g (ordG k o needs a g).1 (getI needs (g : Int))).2 ∧ (takeG k o g (ordG k o needs a g).1 (getI needs (g : Int))).2 ≤ getI needs (g : Int) at ht
    obtain ⟨t1, t2, t3, t4⟩ := ht
    have hbg : 0 ≤ getI a.2 (g : Int) ∧ getI a.2 (g : Int) ≤ B := z141 hb ⟨Int.le_refl 0, hB⟩ _
    refine ⟨t1, by rw [ordG]; dsimp only; rw [t2, h2], ?_, by rw [ordG]; simp [h4], fun i hi => ?_⟩
    · intro x hx
      rw [ordG] at hx
      rcases List.mem_or_eq_of_mem_set hx with hx | hx
      · exact h3 x hx
      · rw [hx, h5 g (Nat.le_refl _)]
        omega
    · rw [ordG]
      dsimp only
      rw [getI, getI, List.getD, List.getD, Int.toNat_natCast, List.getElem?_set_ne (by omega)]
      have := h5 i (by omega)
      rw [getI, getI, List.getD, List.getD, Int.toNat_natCast] at this
      exact this
theorem z919 {k : Kitchen} (hg : KitGood k) {M : List (List Int)} (hM : shapedB (menuB k) M k.days = true) (d : Nat) (hd : d ≤ M.length) :
    AmtOk (ordD k M d).1 ∧ (ordD k M d).1.length = k.batches.length ∧ BuyOk (2 ^ 40 * d) (ordD k M d).2.1 ∧ (ordD k M d).2.1.length = k.allerg.length ∧ 0 ≤ (ordD k M d).2.2 ∧ (ordD k M d).2.2 ≤ 10000000 * d := by
  induction d with
  | zero => exact ⟨z321 hg, by simp [ordD, amtK], fun x hx => by rw [ordD] at hx; have := List.eq_of_mem_replicate hx; omega, by simp [ordD], Int.le_refl 0, by simp [ordD]⟩
  | succ d ih =>
    obtain ⟨h1, h2, h3, h4, h5, h6⟩ := ih (by omega)
    obtain ⟨r, hr⟩ : ∃ r, M[d]? = some r := ⟨_, List.getElem?_eq_getElem (by omega)⟩
    obtain ⟨_, _, hdo⟩ := z117 hg hM (z891 hg) hr
    have hnd : needD k M (hiC k) d = needL k r (hiC k d) := by rw [needD, List.getD, hr]; rfl
    obtain ⟨c1, c2, c3⟩ := z49 (k := k) (day := (d : Int)) (w := (ordD k M d).2.2) h1 k.batches.length
    have c4 := z40 k (d : Int) (ordD k M d).1 (ordD k M d).2.2 k.batches.length
    have hb := hg.batches
    obtain ⟨o1, o2, o3, o4, _⟩ := z806 (k := k) (o := ordK k) (needs := needD k M (hiC k) d) (a := ((clrTo k (d : Int) (ordD k M d).1 (ordD k M d).2.2 k.batches.length).1, (ordD k M d).2.1)) (B := 2 ^ 40 * d) c1 h3 (by omega) (by rw [hnd]; exact z52 hg hdo) k.allerg.length
    refine ⟨o1, ?_, ?_, ?_, ?_, ?_⟩
    · rw [ordD]; dsimp only; rw [o2]; dsimp only; rw [c4, h2]
    · rw [ordD]; dsimp only
      have e : (2 : Int) ^ 40 * (d : Int) + 2 ^ 40 = 2 ^ 40 * ((d + 1 : Nat) : Int) := by push_cast; omega
      rw [← e]
      exact o3
    · rw [ordD]; dsimp only; rw [o4]; exact h4
    · rw [ordD]; dsimp only; omega
    · rw [ordD]; dsimp only; push_cast; omega
theorem z1047 (k : Kitchen) (day group : Nat) (hd : day < k.days.length) (hg : group < (k.days.getD day []).length) : Fn Try.prog 49 [.i (group : Int), .ptr k.cells 0, .ptr [.i (day : Int)] 0] (.i (hiC k day group)) := by
  have h := z970 k day group hd hg
  unfold hiC
  rw [Kitchen.cells] at h ⊢
  refine z22 9 Try.call49 Try.func49 rfl (by decide) fun J => ?_
  simp (maxSteps := 4000000) only [go_sem, St.start, Try.ntmps49, Try.results49]
  repeat (first | refine nx (by first | (constructor; done) | exact .other rfl) ?_ | (refine z10 fun K hK => ?_; simp (maxSteps := 4000000) only [go_sem]; (repeat (first | (refine ⟨_, .lent (hf := h) (hd := rfl) (hr := rfl), ?_⟩; simp (maxSteps := 4000000) only [go_sem]) | (refine ⟨_, .given (hf := h) (hd := rfl) (ha := rfl), ?_⟩; simp (maxSteps := 4000000) only [go_sem]))); refine hK _ ?_; clear hK K))
  simp (maxSteps := 4000000) only [go_sem]
end Go.Ab
namespace Go.Ab
open Go.RowKit Go.Proofs
set_option maxHeartbeats 16000000
set_option maxRecDepth 20000
attribute [local irreducible] WalkL Walk
theorem z807 {k : Kitchen} {M : List (List Int)} (h0 : openK k M = 0) : KitGood k ∧ shapedB (menuB k) M k.days = true := by
  unfold openK at h0
  split at h0
  · rename_i hz
    split at h0
    · exact ⟨z115 (z106.1 hz), by assumption⟩
    · cases h0
  · contradiction
theorem z1058 (k : Kitchen) (M : List (List Int)) (hs : KitSmall k) (hM : M.length < 2 ^ 30) (hMr : ∀ r ∈ M, r.length < 2 ^ 30) :
    Fn Try.prog 17 [.agg k.cells, .sl (listRows M)] (.tup (if openK k M = 0 then [.sl (intRows (orderK k M)), .i 0] else [.sl [], .i (openK k M)])) := by
  have h84 := z983 k M hs hM hMr
  rw [Kitchen.cells] at h84
  by_cases h0 : openK k M = 0
  · rw [if_pos h0]
    obtain ⟨hg, hsh⟩ := z807 h0
    rw [h0] at h84
    have h85 := z947 k hg.batches
    change FnG Try.prog 41 [] [] (List.map AV.d [.agg k.cells]) _ _ at h85
    have hbl := hg.batches
    have hdl := hg.days
    have hMl := z46 hsh
    have hgo := hg.goods
    have hmk : (k.allerg.length : Int) ≤ 1099511627776 := by omega
    have hrep := z300 k.allerg.length
    have hcl : k.cells.length = 4 := rfl
    have hct : k.cells.take 4 = k.cells := rfl
    have hOK := fun d hd => z919 hg hsh d hd
    rw [orderK]
    obtain ⟨F, hF⟩ : ∃ F, F = ordD k M := ⟨_, rfl⟩
    have hF0 : F 0 = (amtK k, List.replicate k.allerg.length 0, 0) := by rw [hF]; rfl
    have hFs : ∀ d, F (d + 1) = ((ordG k (ordK k) (needD k M (hiC k) d) ((clrTo k (d : Int) (F d).1 (F d).2.2 k.batches.length).1, (F d).2.1) k.allerg.length).1,
      (ordG k (ordK k) (needD k M (hiC k) d) ((clrTo k (d : Int) (F d).1 (F d).2.2 k.batches.length).1, (F d).2.1) k.allerg.length).2,
      (clrTo k (d : Int) (F d).1 (F d).2.2 k.batches.length).2) := fun d => by rw [hF]; rfl
    rw [← hF] at hOK ⊢
    refine z22 102 Try.call17 Try.func17 rfl (by decide) fun J => ?_
    simp (maxSteps := 4000000) only [go_sem, St.start, Try.ntmps17, Try.results17, Kitchen.cells]
    repeat (first | refine z12 rfl ?_ | refine z11 rfl ?_ | refine nx (by first | (constructor; done) | exact .other rfl) ?_ | (refine z10 fun K hK => ?_; simp (maxSteps := 4000000) only [go_sem]; (repeat (first | (refine ⟨_, .lent (hf := h84) (hd := rfl) (hr := rfl), ?_⟩; simp (maxSteps := 4000000) only [go_sem]) | (refine ⟨_, .given (hf := h84) (hd := rfl) (ha := rfl), ?_⟩; simp (maxSteps := 4000000) only [go_sem]))); refine hK _ ?_; clear hK K))
    refine z25 [2, 6] ?_
    simp (maxSteps := 4000000) only [go_sem]
    refine z10 fun K hK => ?_
    simp (maxSteps := 4000000) only [go_sem, hmk, hrep]
    refine hK _ ?_
    clear hK K
    repeat (first | refine z24 ?_ | refine z23 ?_ | refine z18 ?_ | refine z19 ?_ | refine z15 ?_ | refine z14 ?_)
    refine z10 fun K hK => ?_
    simp (maxSteps := 4000000) only [go_sem, hcl, hct]
    refine ⟨_, .made (news := [0, 1, 3]) (hf := h85) (hd := rfl) (hn := by decide) (hl := rfl) (hnew := rfl) (hx := rfl), ?_⟩
    simp (maxSteps := 4000000) only [go_sem, List.map_cons, List.map_nil, lardRow]
    refine hK _ ?_
    clear hK K
    repeat (first | refine nx (by first | (constructor; done) | exact .other rfl) ?_ | (refine z10 fun K hK => ?_; simp (maxSteps := 4000000) only [go_sem, z26]; refine hK _ ?_; clear hK K))
    refine z17 (fun (d : Nat) => [(34, .d (.i (d : Int)))]) (fun d => [(0, some (.box (lardRow k (.own 1) (.own 3) (F d).2.2))), (1, some (.arr 3 1 (intRows (F d).1))), (29, some (.arr 3 1 (intRows (F d).2.1)))]) (fun d => d ≤ M.length) (fun d => M.length - d) 0 ?_ (Nat.zero_le _) ?_
    · rw [hF0]
      simp (maxSteps := 4000000) only [go_sem, lardRow]
      refine z13 [] ?_ ?_ rfl rfl <;> simp [lessT, lessM, lessB, AV.less]
      all_goals first | done | rfl | exact ⟨rfl, rfl⟩ | trace_state
    · intro d hd
      obtain ⟨a1, a2, a3, a4, a5, a6⟩ := hOK d hd
      have hnx := hFs d
      obtain ⟨⟨l, b, w⟩, hFd⟩ : ∃ x, F d = x := ⟨_, rfl⟩
      rw [hFd] at a1 a2 a3 a4 a5 a6 hnx ⊢
      dsimp only at a1 a2 a3 a4 a5 a6 hnx ⊢
      have hw2 : w ≤ 2 ^ 40 := by omega
      simp (maxSteps := 4000000) only [go_sem, lardRow]
      repeat (first | refine nx (by first | (constructor; done) | exact .other rfl) ?_ | (refine z10 fun K hK => ?_; simp (maxSteps := 4000000) only [go_sem]; refine hK _ ?_; clear hK K))
      refine z16 rfl (fun hb => ?_) (fun hb => ?_)
      · have hlt : d < M.length := by simpa using hb
        have hw : IntKind.i64.wrap ((d : Int) + 1) = ((d + 1 : Nat) : Int) := by rw [z20 (by omega)]; simp
        obtain ⟨r, hr⟩ : ∃ r, M[d]? = some r := ⟨_, List.getElem?_eq_getElem hlt⟩
        obtain ⟨hdd, hrl, hday⟩ := z117 hg hsh (z891 hg) hr
        change DayOk k r (hiC k d) at hday
        have g1 := z35 hr
        have hni : ¬ ((d : Int) < 0) := by omega
        have hnd : needD k M (hiC k) d = needL k r (hiC k d) := by rw [needD, List.getD, hr]; rfl
        rw [hnd] at hnx
        have h86 := z850 k hbl (d : Int) l (ordK k) w a2 a1 ⟨a5, hw2⟩
        obtain ⟨c1, c2, c3⟩ := z49 (k := k) (day := (d : Int)) (w := w) a1 k.batches.length
        have c4 := z40 k (d : Int) l w k.batches.length
        obtain ⟨⟨C, v⟩, hC⟩ : ∃ a, a = clrTo k (d : Int) l w k.batches.length := ⟨_, rfl⟩
        rw [← hC] at h86 c1 c2 c3 c4 hnx
        dsimp only at c1 c2 c3 c4 hnx
        have h87 := (z849 k hg r (hiC k d) 49 [.ptr k.cells 0, .ptr [.i (d : Int)] 0] hday (fun j hj => z1047 k d j hdd (by omega))).deep
        simp only [lardRow] at h86
        have hNo := z52 hg hday
        have hNl := z44 k r (hiC k d)
        obtain ⟨N, hN⟩ : ∃ N, N = needL k r (hiC k d) := ⟨_, rfl⟩
        rw [← hN] at h87 hnx hNo hNl
        repeat (first | refine z24 ?_ | refine z23 ?_ | refine z18 ?_ | refine z19 ?_ | refine z15 ?_ | refine z14 ?_)
        refine z10 fun K hK => ?_
        simp (maxSteps := 4000000) only [go_sem, g1, hni]
        refine hK _ ?_
        clear hK K
        refine z25 [10] ?_
        simp (maxSteps := 4000000) only [go_sem]
        repeat (first | refine z24 ?_ | refine z23 ?_ | refine z18 ?_ | refine z19 ?_ | refine z15 ?_ | refine z14 ?_)
        refine z10 fun K hK => ?_
        simp (maxSteps := 4000000) only [go_sem]
        refine ⟨_, .own (ns := [0, 1, 3]) (news := []) (bads := [1, 3]) (rd := []) (hf := h86) (hnd := by decide) (hl0 := rfl) (hl1 := rfl) (hm := by repeat (first | exact trivial | refine And.intro ?_ ?_ | rfl)) (hnew := rfl) (hla := rfl) (ha := z31 (by repeat (first | exact trivial | refine And.intro ?_ ?_ | exact z32 rfl | exact z27 rfl rfl))) (hrd := rfl) (hsh := z28 _) (hb := rfl) (hfl := .inl rfl), ?_⟩
        simp (maxSteps := 4000000) only [go_sem, List.map_cons, List.map_nil]
        refine hK _ ?_
        clear hK K
        repeat (first | refine z24 ?_ | refine z23 ?_ | refine z18 ?_ | refine z19 ?_ | refine z15 ?_ | refine z14 ?_)
        refine z10 fun K hK => ?_
        simp (maxSteps := 4000000) only [go_sem, hcl, hct]
        refine ⟨_, .given (hf := h87) (hd := rfl) (ha := rfl), ?_⟩
        simp (maxSteps := 4000000) only [go_sem, z37, hNl]
        refine hK _ ?_
        clear hK K
        repeat (first | refine nx (by first | (constructor; done) | exact .other rfl) ?_ | (refine z10 fun K hK => ?_; simp (maxSteps := 4000000) only [go_sem]; refine hK _ ?_; clear hK K))
        obtain ⟨H, hH⟩ : ∃ H, H = ordG k (ordK k) N (C, b) := ⟨_, rfl⟩
        have hH0 : H 0 = (C, b) := by rw [hH]; rfl
        have hHs : ∀ g, H (g + 1) = ((takeG k (ordK k) g (H g).1 (getI N (g : Int))).1, (H g).2.set g (getI (H g).2 (g : Int) + (takeG k (ordK k) g (H g).1 (getI N (g : Int))).2)) := fun g => by rw [hH]; rfl
        have hHo := fun g => z806 (k := k) (o := ordK k) (needs := N) (a := (C, b)) (B := 2 ^ 40 * d) c1 a3 (by omega) hNo g
        rw [← hH] at hHo hnx
        dsimp only at hHo
        have hol := z91 k
        have hom : ∀ x ∈ ordK k, x < k.batches.length := fun x hx => z47 hx
        obtain ⟨o, ho⟩ : ∃ o, o = ordK k := ⟨_, rfl⟩
        rw [← ho] at hHs hol hom
        refine z17 (fun (g : Nat) => [(47, .d (.i (g : Int)))]) (fun g => [(1, some (.arr 3 1 (intRows (H g).1))), (29, some (.arr 3 1 (intRows (H g).2)))]) (fun g => g ≤ k.allerg.length) (fun g => k.allerg.length - g) 0 ?_ (Nat.zero_le _) ?_
        · rw [hH0]
          simp (maxSteps := 4000000) only [go_sem]
          refine z13 [] ?_ ?_ rfl rfl <;> simp [lessT, lessM, lessB, AV.less]
          all_goals first | done | rfl | trace_state
        · intro g hg2
          obtain ⟨b1, b2, b3, b4, b5⟩ := hHo g
          have hnx2 := hHs g
          obtain ⟨⟨cur, B⟩, hHg⟩ : ∃ x, H g = x := ⟨_, rfl⟩
          rw [hHg] at b1 b2 b3 b4 b5 hnx2 ⊢
          dsimp only at b1 b2 b3 b4 b5 hnx2 ⊢
          simp (maxSteps := 4000000) only [go_sem]
          repeat (first | refine nx (by first | (constructor; done) | exact .other rfl) ?_ | (refine z10 fun K hK => ?_; simp (maxSteps := 4000000) only [go_sem]; refine hK _ ?_; clear hK K))
          refine z16 rfl (fun hb => ?_) (fun hb => ?_)
          · have hltg : g < k.allerg.length := by simpa using hb
            have hwg : IntKind.i64.wrap ((g : Int) + 1) = ((g + 1 : Nat) : Int) := by rw [z20 (by omega)]; simp
            have gn := z30 (l := N) (i := g) (by omega)
            have hnr : 0 ≤ getI N (g : Int) ∧ getI N (g : Int) ≤ 2 ^ 40 := z141 hNo (by decide) _
            obtain ⟨n, hn⟩ : ∃ n, n = getI N (g : Int) := ⟨_, rfl⟩
            rw [← hn] at gn hnx2 hnr
            have hng : ¬ ((g : Int) < 0) := by omega
            have hlN : g < N.length := by omega
            repeat (first | refine nx (by first | (constructor; done) | exact .other rfl) ?_ | (refine z10 fun K hK => ?_; simp (maxSteps := 4000000) only [go_sem, gn, hng, hlN]; refine hK _ ?_; clear hK K))
            rw [← ho]
            refine z17 (fun (q : Nat × List Int × Int) => [(57, .d (.i (q.1 : Int))), (13, .d (.i q.2.2))]) (fun q => [(1, some (.arr 3 1 (intRows q.2.1)))]) (fun q => q.1 ≤ o.length ∧ (q.2.1, q.2.2) = (o.take q.1).foldl (takeStep k g) (cur, n) ∧ AmtOk q.2.1 ∧ q.2.1.length = cur.length ∧ 0 ≤ q.2.2 ∧ q.2.2 ≤ 2 ^ 40) (fun q => o.length - q.1) (0, cur, n) ?_ ⟨Nat.zero_le _, rfl, b1, rfl, hnr.1, hnr.2⟩ ?_
            · simp (maxSteps := 4000000) only [go_sem]
              refine z13 [] ?_ ?_ rfl rfl <;> simp [lessT, lessM, lessB, AV.less]
              all_goals first | done | rfl | trace_state
            · rintro ⟨j, A, m⟩ ⟨hj, hfold, hAo, hAl, hm0, hm1⟩
              dsimp only at hj hfold hAo hAl hm0 hm1
              simp (maxSteps := 4000000) only [go_sem]
              repeat (first | refine nx (by first | (constructor; done) | exact .other rfl) ?_ | (refine z10 fun K hK => ?_; simp (maxSteps := 4000000) only [go_sem]; refine hK _ ?_; clear hK K))
              refine z16 rfl (fun hb => ?_) (fun hb => ?_)
              · have hltj : j < o.length := by simpa using hb
                have hwj : IntKind.i64.wrap ((j : Int) + 1) = ((j + 1 : Nat) : Int) := by rw [z20 (by omega)]; simp
                have hnj : ¬ ((j : Int) < 0) := by omega
                obtain ⟨x, hx⟩ : ∃ x, o[j]? = some x := ⟨_, List.getElem?_eq_getElem hltj⟩
                have gx := z97 hltj
                rw [List.getD, hx, Option.getD_some] at gx
                have hxb := hom x (List.mem_of_getElem? hx)
                have gb := z149 hxb
                rw [Batch.row] at gb
                have hnx3 : ¬ ((x : Int) < 0) := by omega
                have hxA : x < A.length := by omega
                have gA := z30 hxA
                have hgA := hAo.get (x : Int)
                have hst : (o.take (j + 1)).foldl (takeStep k g) (cur, n) = takeStep k g (A, m) x := by rw [z78 _ _ _ _ _ hx, ← hfold]
                have hso := z83 (k := k) (good := g) (i := x) (a := (A, m)) hAo hm0
                by_cases hq : (batAt k x).good = (g : Int)
                · have e : ((batAt k x).good == (g : Int)) = true := by simp [hq]
                  have e0 : takeStep k g (A, m) x = (A.set x (getI A (x : Int) - min m (getI A (x : Int))), m - min m (getI A (x : Int))) := by rw [takeStep, if_pos hq]
                  rw [e0] at hst hso
                  dsimp only at hso
                  have e1 : IntKind.i64.wrap (getI A (x : Int) - min m (getI A (x : Int))) = getI A (x : Int) - min m (getI A (x : Int)) := z20 (by omega)
                  have e2 : IntKind.i64.wrap (m - min m (getI A (x : Int))) = m - min m (getI A (x : Int)) := z20 (by omega)
                  have su := z56 A x (getI A (x : Int) - min m (getI A (x : Int)))
                  obtain ⟨v2, hv⟩ : ∃ v2, v2 = getI A (x : Int) := ⟨_, rfl⟩
                  rw [← hv] at gA e1 e2 su hst hso hgA
                  obtain ⟨t, ht⟩ : ∃ t, t = min m v2 := ⟨_, rfl⟩
                  rw [← ht] at e1 e2 su hst hso
                  have ht' : min m v2 = t := ht.symm
                  repeat (first | refine z12 rfl ?_ | refine z11 rfl ?_ | refine nx (by first | (constructor; done) | exact .other rfl) ?_ | (refine z10 fun K hK => ?_; simp (maxSteps := 4000000) only [go_sem, gx, hnj, hltj, gb, hnx3, e]; refine hK _ ?_; clear hK K))
                  repeat (first | refine nx (by first | (constructor; done) | exact .other rfl) ?_ | (refine z10 fun K hK => ?_; simp (maxSteps := 4000000) only [go_sem, gx, hnj, hltj, gb, hnx3, e, gA, hxA, ht', e1, e2, su, hwj]; refine hK _ ?_; clear hK K))
                  refine ⟨rfl, (j + 1, A.set x (v2 - t), m - t), ?_, ⟨hltj, hst.symm, hso.1, by rw [hso.2.1]; exact hAl, hso.2.2.1, by dsimp only; omega⟩, by dsimp only; omega⟩
                  refine z13 [] ?_ ?_ rfl rfl <;> simp [lessT, lessM, lessB, AV.less]
                  all_goals first | done | rfl | trace_state
                · have e : ((batAt k x).good == (g : Int)) = false := by simpa using hq
                  have e0 : takeStep k g (A, m) x = (A, m) := by rw [takeStep, if_neg hq]
                  rw [e0] at hst
                  repeat (first | refine z12 rfl ?_ | refine z11 rfl ?_ | refine nx (by first | (constructor; done) | exact .other rfl) ?_ | (refine z10 fun K hK => ?_; simp (maxSteps := 4000000) only [go_sem, gx, hnj, hltj, gb, hnx3, e, hwj]; refine hK _ ?_; clear hK K))
                  refine ⟨rfl, (j + 1, A, m), ?_, ⟨hltj, hst.symm, hAo, hAl, hm0, hm1⟩, by dsimp only; omega⟩
                  refine z13 [] ?_ ?_ rfl rfl <;> simp [lessT, lessM, lessB, AV.less]
                  all_goals first | done | rfl | trace_state
              · have he : j = o.length := by (have : ¬ j < o.length := by simpa using hb); omega
                subst he
                rw [List.take_length] at hfold
                have hGt : takeG k o g cur n = (A, m) := hfold.symm
                rw [hGt] at hnx2
                dsimp only at hnx2
                have hgB : g < B.length := by omega
                have gB := z30 hgB
                have hBr : 0 ≤ getI B (g : Int) ∧ getI B (g : Int) ≤ 2 ^ 40 * d + 2 ^ 40 := z141 b3 (by omega) _
                have eB : IntKind.i64.wrap (getI B (g : Int) + m) = getI B (g : Int) + m := z20 (by omega)
                have suB := z56 B g (getI B (g : Int) + m)
                repeat (first | refine nx (by first | (constructor; done) | exact .other rfl) ?_ | (refine z10 fun K hK => ?_; simp (maxSteps := 4000000) only [go_sem, gB, hgB, hng, eB, suB, hwg]; refine hK _ ?_; clear hK K))
                refine ⟨rfl, g + 1, ?_, hltg, by omega⟩
                rw [hnx2]
                refine z13 [] ?_ ?_ rfl rfl <;> simp [lessT, lessM, lessB, AV.less]
                all_goals first | done | rfl | trace_state
          · have he : g = k.allerg.length := by (have : ¬ g < k.allerg.length := by simpa using hb); omega
            subst he
            rw [hHg] at hnx
            dsimp only at hnx
            repeat (first | refine nx (by first | (constructor; done) | exact .other rfl) ?_ | (refine z10 fun K hK => ?_; simp (maxSteps := 4000000) only [go_sem, hw]; refine hK _ ?_; clear hK K))
            refine ⟨rfl, d + 1, ?_, hlt, by omega⟩
            rw [hnx]
            simp (maxSteps := 4000000) only [go_sem, lardRow]
            refine z13 [] ?_ ?_ rfl rfl <;> simp [lessT, lessM, lessB, AV.less]
            all_goals first | done | rfl | exact ⟨rfl, rfl⟩ | trace_state
      · have he : d = M.length := by (have : ¬ d < M.length := by simpa using hb); omega
        subst he
        rw [hFd]
        repeat (first | refine nx (by first | (constructor; done) | exact .other rfl) ?_ | (refine z10 fun K hK => ?_; simp (maxSteps := 4000000) only [go_sem]; refine hK _ ?_; clear hK K))
        simp (maxSteps := 4000000) only [go_sem]
  · rw [if_neg h0]
    have hz : (openK k M != 0) = true := by simpa using h0
    obtain ⟨e, he⟩ : ∃ e, e = openK k M := ⟨_, rfl⟩
    rw [← he] at h84 hz ⊢
    refine z22 102 Try.call17 Try.func17 rfl (by decide) fun J => ?_
    simp (maxSteps := 4000000) only [go_sem, St.start, Try.ntmps17, Try.results17, Kitchen.cells]
    repeat (first | refine z12 rfl ?_ | refine z11 rfl ?_ | refine nx (by first | (constructor; done) | exact .other rfl) ?_ | (refine z10 fun K hK => ?_; simp (maxSteps := 4000000) only [go_sem, hz]; (repeat (first | (refine ⟨_, .lent (hf := h84) (hd := rfl) (hr := rfl), ?_⟩; simp (maxSteps := 4000000) only [go_sem, hz]) | (refine ⟨_, .given (hf := h84) (hd := rfl) (ha := rfl), ?_⟩; simp (maxSteps := 4000000) only [go_sem, hz]))); refine hK _ ?_; clear hK K))
    simp (maxSteps := 4000000) only [go_sem]
end Go.Ab
namespace Go.Ab
open Go.RowKit Go.Proofs
set_option maxHeartbeats 8000000
set_option maxRecDepth 20000
attribute [local irreducible] WalkL Walk
def daysP (h : Int) : Int := IntKind.i64.wrap ((IntKind.i64.wrap (h + 23)).tdiv 24)
def enoughP (k : Kitchen) (M : List (List Int)) (s : Supply) (c n : Int) : Int × Bool × Int :=
  if openK k M = 0 then (if (nextP s c n).2.2 = 0 then (daysP (nextP s c n).1, decide (daysP (nextP s c n).1 ≤ (mostK k M : Int)), 0) else (0, false, (nextP s c n).2.2)) else (0, false, openK k M)
theorem z999 (a b : Int) : Fn Try.prog 76 [.i a, .i b] (.agg [.i a, .i b]) := by
  refine z22 8 Try.call76 Try.func76 rfl (by decide) fun J => ?_
  simp (maxSteps := 4000000) only [go_sem, St.start, Try.ntmps76, Try.results76]
  repeat (first | refine nx (by first | (constructor; done) | exact .other rfl) ?_ | (refine z10 fun K hK => ?_; simp (maxSteps := 4000000) only [go_sem]; refine hK _ ?_; clear hK K))
  simp (maxSteps := 4000000) only [go_sem]
def exK : Kitchen := ⟨[1, 0], [⟨0, 1000, 1⟩, ⟨0, 500, 3⟩, ⟨1, 2000, 2⟩], [⟨[200, 0]⟩, ⟨[0, 300]⟩], List.replicate 3 [⟨0, ⟨2, 3⟩⟩, ⟨1, ⟨1, 1⟩⟩]⟩
def exM : List (List Int) := [[0, 1], [0, 1], [0, 1]]
theorem z1049 : Fn Try.prog 39 [] (.tup [.agg exK.cells, .sl (listRows exM)]) := by
  have h1 := z999 2 3
  have h2 := z999 1 1
  refine z22 27 Try.call39 Try.func39 rfl (by decide) fun J => ?_
  simp (maxSteps := 4000000) only [go_sem, St.start, Try.ntmps39, Try.results39]
  repeat (first | refine nx (by first | (constructor; done) | exact .other rfl) ?_ | (refine z10 fun K hK => ?_; simp (maxSteps := 4000000) only [go_sem]; (repeat (first | (refine ⟨_, .lent (hf := h1) (hd := rfl) (hr := rfl), ?_⟩; simp (maxSteps := 4000000) only [go_sem]) | (refine ⟨_, .lent (hf := h2) (hd := rfl) (hr := rfl), ?_⟩; simp (maxSteps := 4000000) only [go_sem]) | (refine ⟨_, .given (hf := h1) (hd := rfl) (ha := rfl), ?_⟩; simp (maxSteps := 4000000) only [go_sem]) | (refine ⟨_, .given (hf := h2) (hd := rfl) (ha := rfl), ?_⟩; simp (maxSteps := 4000000) only [go_sem]))); refine hK _ ?_; clear hK K))
  simp (maxSteps := 4000000) only [go_sem]
  rfl
theorem z307 : KitSmall exK := ⟨by decide, by decide, by decide, by intro l hl; simp [exK] at hl; rcases hl with rfl | rfl <;> decide, by decide, by intro l hl; simp [exK] at hl; subst hl; decide⟩
theorem z897 : openK exK exM = 0 := by decide +kernel
theorem z834 : orderK exK exM = [300, 0] := by decide +kernel
end Go.Ab
namespace Go.Ab
open Go.RowKit Go.Proofs
set_option maxHeartbeats 8000000
set_option maxRecDepth 20000
attribute [local irreducible] WalkL Walk
def suitTo7 (k : Kitchen) (no : Int) (m : Nat) : List Int := ((List.range m).filter fun (i : Nat) => suitsB k (i : Int) no).map fun (i : Nat) => (i : Int)
def suitL (k : Kitchen) (no : Int) : List Int := suitTo7 k no k.dishes.length
theorem z358 {k : Kitchen} {no : Int} {i : Nat} (h : suitsB k (i : Int) no = true) : suitTo7 k no (i + 1) = suitTo7 k no i ++ [(i : Int)] := by
  simp [suitTo7, List.range_succ, List.filter_append, h]
theorem z483 {k : Kitchen} {no : Int} {i : Nat} (h : suitsB k (i : Int) no = false) : suitTo7 k no (i + 1) = suitTo7 k no i := by
  simp [suitTo7, List.range_succ, List.filter_append, h]
theorem z122 (k : Kitchen) (no : Int) (m : Nat) : (suitTo7 k no m).length ≤ m := by
  have := List.length_filter_le (fun (i : Nat) => suitsB k (i : Int) no) (List.range m)
  simpa [suitTo7] using this
theorem z860 {k : Kitchen} {no d : Int} (h : d ∈ suitL k no) : ∃ n : Nat, d = n ∧ n < k.dishes.length ∧ suitsB k (n : Int) no = true := by
  obtain ⟨n, hn, rfl⟩ := List.mem_map.1 h
  obtain ⟨h1, h2⟩ := List.mem_filter.1 hn
  exact ⟨n, rfl, List.mem_range.1 h1, h2⟩
theorem z978 (k : Kitchen) (hg : KitGood k) (no : Int) : FnS Try.prog 63 [.agg k.cells, .i no] 3 1 (intRows (suitL k no)) := by
  have hd := hg.dishes
  unfold suitL
  refine z208 23 Try.call63 Try.func63 rfl (by decide) fun J => ?_
  simp (maxSteps := 4000000) only [go_sem, St.start, Try.ntmps63, Try.results63, Kitchen.cells]
  repeat (first | refine nx (by first | (constructor; done) | exact .other rfl) ?_ | (refine z10 fun K hK => ?_; simp (maxSteps := 4000000) only [go_sem]; refine hK _ ?_; clear hK K))
  refine z17 (fun (i : Nat) => [(10, .d (.i (i : Int))), (4, .own 20)]) (fun i => [(20, some (.arr 3 1 (intRows (suitTo7 k no i))))]) (fun i => i ≤ k.dishes.length) (fun i => k.dishes.length - i) 0 ?_ (Nat.zero_le _) ?_
  · simp (maxSteps := 4000000) only [go_sem]
    refine z13 [20] ?_ ?_ rfl rfl <;> simp [lessT, lessM, lessB, AV.less, suitTo7, intRows]
  · intro i hi
    simp (maxSteps := 4000000) only [go_sem]
    repeat (first | refine nx (by first | (constructor; done) | exact .other rfl) ?_ | (refine z10 fun K hK => ?_; simp (maxSteps := 4000000) only [go_sem]; refine hK _ ?_; clear hK K))
    refine z16 rfl (fun hb => ?_) (fun hb => ?_)
    · have hlt : i < k.dishes.length := by simpa using hb
      have hw : IntKind.i64.wrap ((i : Int) + 1) = ((i + 1 : Nat) : Int) := by rw [z20 (by omega)]; simp
      have h86 := z998 k hg i no hlt
      rw [Kitchen.cells] at h86
      have hl := z122 k no i
      obtain ⟨L, hL⟩ : ∃ L, L = suitTo7 k no i := ⟨_, rfl⟩
      rw [← hL] at hl ⊢
      have hn : L.length + 1 ≤ 549755813888 := by omega
      cases q : suitsB k (i : Int) no
      · rw [q] at h86
        have e := z483 q
        rw [← hL] at e
        repeat (first | refine z12 rfl ?_ | refine z11 rfl ?_ | refine nx (by first | (constructor; done) | exact .other rfl) ?_ | (refine z10 fun K hK => ?_; simp (maxSteps := 4000000) only [go_sem, hw]; (repeat (first | (refine ⟨_, .lent (hf := h86) (hd := rfl) (hr := rfl), ?_⟩; simp (maxSteps := 4000000) only [go_sem, hw]) | (refine ⟨_, .given (hf := h86) (hd := rfl) (ha := rfl), ?_⟩; simp (maxSteps := 4000000) only [go_sem, hw]))); refine hK _ ?_; clear hK K))
        refine ⟨rfl, i + 1, ?_, hlt, by omega⟩
        rw [e]
        refine z13 [] ?_ ?_ rfl rfl <;> simp [lessT, lessM, lessB, AV.less]
        all_goals first | done | rfl | trace_state
      · rw [q] at h86
        have e := z358 q
        rw [← hL] at e
        have s1 : intRows L ++ [[.i (i : Int)]] = intRows (suitTo7 k no (i + 1)) := by rw [e]; simp [intRows]
        repeat (first | refine z12 rfl ?_ | refine z11 rfl ?_ | refine nx (by first | (constructor; done) | exact .other rfl) ?_ | (refine z10 fun K hK => ?_; simp (maxSteps := 4000000) only [go_sem, hn, s1, hw]; (repeat (first | (refine ⟨_, .lent (hf := h86) (hd := rfl) (hr := rfl), ?_⟩; simp (maxSteps := 4000000) only [go_sem, hn, s1, hw]) | (refine ⟨_, .given (hf := h86) (hd := rfl) (ha := rfl), ?_⟩; simp (maxSteps := 4000000) only [go_sem, hn, s1, hw]))); refine hK _ ?_; clear hK K))
        refine ⟨rfl, i + 1, ?_, hlt, by omega⟩
        refine z13 [] ?_ ?_ rfl rfl <;> simp [lessT, lessM, lessB, AV.less]
        all_goals first | done | rfl | trace_state
    · have he : i = k.dishes.length := by (have : ¬ i < k.dishes.length := by simpa using hb); omega
      subst he
      repeat (first | refine nx (by first | (constructor; done) | exact .other rfl) ?_ | (refine z10 fun K hK => ?_; simp (maxSteps := 4000000) only [go_sem]; refine hK _ ?_; clear hK K))
      simp (maxSteps := 4000000) only [go_sem]
end Go.Ab
namespace Go.Ab
open Go.RowKit Go.Proofs
set_option maxHeartbeats 16000000
set_option maxRecDepth 20000
attribute [local irreducible] WalkL Walk
def addL : List (List Int) → List Int → List (List Int)
  | [], pre => [pre]
  | S :: gs, pre => S.flatMap fun d => addL gs (pre ++ [d])
def menuRows (l : List (List Int)) : List (List DV) := l.map fun m => [.sl (intRows m)]
def suitDay (k : Kitchen) (dy : Nat) : List (List Int) := (k.days.getD dy []).map fun g => suitL k g.no
def cycCaps98 (k : Kitchen) (dy l : Nat) : List (Option DV) := [some (.ptr k.cells 0), some (.ptr [.i (dy : Int)] 0), some (.ptr [.yld l] 0), none]
theorem z973 (k : Kitchen) (dy l : Nat) (hd : dy < k.days.length) (pre : List Int) (hne : pre ≠ []) (hl : pre.length = (k.days.getD dy []).length) (hsm : pre.length < 2 ^ 20) (D : DV) :
    YFn Try.prog 98 l [.arrP 3 1 (intRows pre)] [.vh 0 pre.length, .d (.ptr k.cells 0), .d (.ptr [.i (dy : Int)] 0), .d (.ptr [.yld l] 0), .d D] (menuRows [pre]) := by
  have h77 := z946 pre (by omega)
  have g1 := z260 hd
  have n1 : ¬ ((dy : Int) < 0) := by omega
  have hlb : ((pre.length : Int) == ((k.days.getD dy []).length : Int)) = true := by simp [hl]
  have hcl : k.cells.length = 4 := rfl
  have k3 : k.cells[3]? = some (.sl (dayRows k.days)) := rfl
  refine z262 49 Try.call98 Try.func98 rfl (by decide) [0] rfl (by kernel_rfl) fun J ITEMS hG hit => ?_
  simp (maxSteps := 4000000) only [go_sem, St.startG, Try.ntmps98, Try.results98, List.map_cons, List.map_nil, List.range_succ,  ]
  repeat (first | refine nx (by first | (constructor; done) | exact .other rfl) ?_ | (refine z10 fun K hK => ?_; simp (maxSteps := 4000000) only [go_sem, g1, n1, hlb, k3, hcl]; refine hK _ ?_; clear hK K))
  refine z12 rfl ?_
  refine z24 ?_
  refine z244 hG [] 3 (by kernel_rfl) (by kernel_rfl) (by kernel_rfl) (by decide) fun K hK => ?_
  simp (maxSteps := 4000000) only [go_sem]
  refine ⟨_, .fnS (hdst := rfl) (hf := h77) (hd := by simp [reifyAll, allSome, reify, leaf, deep, z37]) (hr := .inl (z38 _)) (hfr := rfl), ?_⟩
  simp (maxSteps := 4000000) only [go_sem]
  refine ⟨by kernel_rfl, ?_⟩
  refine ⟨rfl, 0, [.sl (intRows pre)], rfl, rfl, rfl, hit 0 _ rfl, ?_, ?_⟩
  · simp (maxSteps := 4000000) only [go_sem]
    refine hK _ _ ?_
    clear hK K
    repeat (first | refine nx (by first | (constructor; done) | exact .other rfl) ?_ | (refine z10 fun K hK => ?_; simp (maxSteps := 4000000) only [go_sem]; refine hK _ ?_; clear hK K))
    simp (maxSteps := 4000000) only [go_sem]
    rfl
  · simp (maxSteps := 4000000) only [go_sem]
    refine hK _ _ ?_
    clear hK K
    repeat (first | refine nx (by first | (constructor; done) | exact .other rfl) ?_ | (refine z10 fun K hK => ?_; simp (maxSteps := 4000000) only [go_sem]; refine hK _ ?_; clear hK K))
    simp (maxSteps := 4000000) only [go_sem]
def cntF (F : Int → List (List Int)) (S : List Int) (j : Nat) : Nat := ((S.take j).flatMap F).length
theorem z312 {F : Int → List (List Int)} {S : List Int} {j : Nat} {d : Int} (h : S[j]? = some d) : cntF F S (j + 1) = cntF F S j + (F d).length := by
  simp [cntF, List.take_add_one, h]
theorem z942 {F : Int → List (List Int)} {S : List Int} {j : Nat} {d : Int} (h : S[j]? = some d) {i : Nat} {m : List Int} (hi : (F d)[i]? = some m) : (S.flatMap F)[cntF F S j + i]? = some m := by
  have hlt := (List.getElem?_eq_some_iff.1 h).1
  have e : S.flatMap F = (S.take j).flatMap F ++ (F d ++ (S.drop (j + 1)).flatMap F) := by
    conv => lhs; rw [← List.take_append_drop j S, List.drop_eq_getElem_cons hlt]
    have : S[j] = d := by rw [List.getElem?_eq_getElem hlt] at h; simpa using h
    simp [this]
  rw [e, List.getElem?_append_right (by simp [cntF]), show cntF F S j + i - ((S.take j).flatMap F).length = i by simp [cntF], List.getElem?_append_left (List.getElem?_eq_some_iff.1 hi).1]
  exact hi
theorem z65 (l : List (List Int)) : (menuRows l).length = l.length := by simp [menuRows]
theorem z445 {F : Int → List (List Int)} {S : List Int} {j : Nat} {d : Int} (h : S[j]? = some d) {i : Nat} {row : List DV} (hi : (menuRows (F d))[i]? = some row) : (menuRows (S.flatMap F))[cntF F S j + i]? = some row := by
  simp only [menuRows, List.getElem?_map, Option.map_eq_some_iff] at hi ⊢
  obtain ⟨m, hm, rfl⟩ := hi
  exact ⟨m, z942 h hm, rfl⟩
theorem z446 (F : Int → List (List Int)) (S : List Int) : cntF F S S.length = (S.flatMap F).length := by simp [cntF]
theorem z974 (k : Kitchen) (hg : KitGood k) (dy l : Nat) (hd : dy < k.days.length) (pre : List Int) (hne : pre ≠ []) (r : Nat) (gs : List (List Int)) (hl : pre.length < (k.days.getD dy []).length) (hsm : pre.length < 2 ^ 20)
    (ih : ∀ d : Int, YFn Try.prog 98 l [.arrP 3 1 (intRows (pre ++ [d]))] [.vh 0 (pre.length + 1), .d (.ptr k.cells 0), .d (.ptr [.i (dy : Int)] 0), .d (.ptr [.yld l] 0), .d (cycD 98 (cycCaps98 k dy l) r)] (menuRows (addL gs (pre ++ [d])))) :
    YFn Try.prog 98 l [.arrP 3 1 (intRows pre)] [.vh 0 pre.length, .d (.ptr k.cells 0), .d (.ptr [.i (dy : Int)] 0), .d (.ptr [.yld l] 0), .d (cycD 98 (cycCaps98 k dy l) (r + 1))] (menuRows (addL (suitL k (dinAt k dy pre.length).no :: gs) pre)) := by
  have h63 := z978 k hg (dinAt k dy pre.length).no
  have g1 := z260 hd
  have g2 := z693 hl
  have n1 : ¬ ((dy : Int) < 0) := by omega
  have n2 : ¬ ((pre.length : Int) < 0) := by omega
  have hlb : ((pre.length : Int) == ((k.days.getD dy []).length : Int)) = false := beq_eq_false_iff_ne.2 (by omega)
  obtain ⟨no, hno⟩ : ∃ no, no = (dinAt k dy pre.length).no := ⟨_, rfl⟩
  rw [Diners.row] at g2
  rw [← hno] at h63 g2 ⊢
  have hcl : k.cells.length = 4 := rfl
  have hct : k.cells.take 4 = k.cells := rfl
  have k3 : k.cells[3]? = some (.sl (dayRows k.days)) := rfl
  obtain ⟨S, hS⟩ : ∃ S, S = suitL k no := ⟨_, rfl⟩
  have hSl : S.length ≤ 5 := by have h1 := z122 k no k.dishes.length; have h2 := hg.dishes; rw [hS, suitL]; omega
  rw [← hS] at h63 ⊢
  obtain ⟨D, hD⟩ : ∃ D, D = cycD 98 (cycCaps98 k dy l) r := ⟨_, rfl⟩
  have hDs : cycD 98 (cycCaps98 k dy l) (r + 1) = .ptr [.fn 98 [.ptr k.cells 0, .ptr [.i (dy : Int)] 0, .ptr [.yld l] 0, D]] 0 := by rw [hD]; rfl
  rw [hDs]
  rw [← hD] at ih
  obtain ⟨F, hF⟩ : ∃ F, F = fun d : Int => addL gs (pre ++ [d]) := ⟨_, rfl⟩
  have hit0 : addL (S :: gs) pre = S.flatMap F := by rw [hF]; rfl
  have ih : ∀ d : Int, YFn Try.prog 98 l [.arrP 3 1 (intRows (pre ++ [d]))] [.vh 0 (pre.length + 1), .d (.ptr k.cells 0), .d (.ptr [.i (dy : Int)] 0), .d (.ptr [.yld l] 0), .d D] (menuRows (F d)) := by rw [hF]; exact ih
  rw [hit0]
  have hpl : pre.length ≤ 549755813887 := by omega
  have hpn : 0 < pre.length := List.length_pos_iff.2 hne
  have hap : ∀ d : Int, intRows pre ++ [[.i d]] = intRows (pre ++ [d]) := fun d => by simp [intRows]
  have hfew : ∀ d : Int, (intRows (pre ++ [d])).take pre.length = intRows pre := fun d => by simp [intRows]
  have hlen : ∀ d : Int, (pre ++ [d]).length = pre.length + 1 := fun d => by simp
  refine z262 49 Try.call98 Try.func98 rfl (by decide) [0] rfl (by kernel_rfl) fun J ITEMS hG hit => ?_
  simp (maxSteps := 4000000) only [go_sem, St.startG, Try.ntmps98, Try.results98, List.map_cons, List.map_nil, List.range_succ,  ]
  refine z566 49 rfl ?_ ?_
  · simp (maxSteps := 4000000) only [go_sem]
    repeat (first | refine nx (by first | (constructor; done) | exact .other rfl) ?_ | (refine z10 fun K hK => ?_; simp (maxSteps := 4000000) only [go_sem, g1, n1, hlb, k3, hcl]; refine hK _ ?_; clear hK K))
    refine z11 rfl ?_
    repeat (first | refine nx (by first | (constructor; done) | exact .other rfl) ?_ | (refine z10 fun K hK => ?_; simp (maxSteps := 4000000) only [go_sem]; refine hK _ ?_; clear hK K))
    refine z21 (by kernel_rfl) (by kernel_rfl) fun K hK => ?_
    simp (maxSteps := 4000000) only [go_sem, g1, n1, g2, n2, k3, hcl, hct]
    refine ⟨_, .fnS (hdst := rfl) (hf := h63) (hd := rfl) (hr := .inl (z38 _)) (hfr := rfl), ?_⟩
    simp (maxSteps := 4000000) only [go_sem]
    refine ⟨by kernel_rfl, hK _ ?_⟩
    clear hK K
    repeat (first | refine nx (by first | (constructor; done) | exact .other rfl) ?_ | (refine z10 fun K hK => ?_; simp (maxSteps := 4000000) only [go_sem]; refine hK _ ?_; clear hK K))
    refine z72 [9, 10, 11, 12, 13, 14, 15, 16, 17, 18, 23, 24, 25, 26, 27, 28, 29, 30, 31, 32, 33, 34] ?_ ?_
    · simp (maxSteps := 4000000) only [go_sem]
      refine z13 [] ?_ ?_ rfl rfl <;> simp [lessT, lessM, lessB, AV.less]
    simp (maxSteps := 4000000) only [go_sem]
    refine z178 (fun (j : Nat) => [(37, .d (.i (j : Int)))]) (fun _ => []) (fun kk j => j ≤ S.length ∧ kk = some (cntF F S j)) (fun j => S.length - j) 0 ?_ ⟨Nat.zero_le _, rfl⟩ ?_
    · simp (maxSteps := 4000000) only [go_sem]
      refine z13 [] ?_ ?_ rfl rfl <;> simp [lessT, lessM, lessB, AV.less]
      all_goals first | done | rfl | trace_state
    · rintro kk j ⟨hj, rfl⟩
      simp (maxSteps := 4000000) only [go_sem]
      repeat (first | refine nx (by first | (constructor; done) | exact .other rfl) ?_ | (refine z10 fun K hK => ?_; simp (maxSteps := 4000000) only [go_sem]; refine hK _ ?_; clear hK K))
      refine z16 rfl (fun hb => ?_) (fun hb => ?_)
      · have hlt : j < S.length := by simpa using hb
        have hw : IntKind.i64.wrap ((j : Int) + 1) = ((j + 1 : Nat) : Int) := by rw [z20 (by omega)]; simp
        obtain ⟨d, hd⟩ : ∃ d, S[j]? = some d := ⟨_, List.getElem?_eq_getElem hlt⟩
        have gS := z42 hd
        have hnj : ¬ ((j : Int) < 0) := by omega
        repeat (first | refine nx (by first | (constructor; done) | exact .other rfl) ?_ | (refine z10 fun K hK => ?_; simp (maxSteps := 4000000) only [go_sem, gS, hlt, hnj]; refine hK _ ?_; clear hK K))
        refine z72 [38, 39, 40] ?_ ?_
        · simp (maxSteps := 4000000) only [go_sem]
          refine z13 [] ?_ ?_ rfl rfl <;> simp [lessT, lessM, lessB, AV.less]
        simp (maxSteps := 4000000) only [go_sem]
        refine z112 hG [46] 5 (by kernel_rfl) (by kernel_rfl) (by kernel_rfl) (by decide) (fun m => ⟨[.vh 49 pre.length, .d (.ptr k.cells 0), .d (.ptr [.i (dy : Int)] 0), .d (.ptr [.yld l] 0), .d (.ptr [.fn 98 [.ptr k.cells 0, .ptr [.i (dy : Int)] 0, .ptr [.yld l] 0, D]] 0), .undef, .undef, .undef, .d (.i d)] ++ List.replicate 26 .undef ++
            [.own 35, .d (.i (S.length : Int)), .d (.i (j : Int)), .undef, .undef, .undef, sel (m 0) (.fn 98 [.ptr k.cells 0, .ptr [.i (dy : Int)] 0, .ptr [.yld l] 0, D]), bif m 1 then .undef else .vh 49 pre.length, sel (m 2) (.i d), bif m 3 then .undef else .own 44, bif m 4 then .undef else .own 45, .undef, .undef, .undef],
          List.replicate 35 none ++ [some (.arr 3 1 (intRows S))] ++ List.replicate 8 none ++ [stB (m 3) true (.arr 3 1 [[.i d]]) (.arr 3 1 []), stB (m 4) true (.arr 3 1 (intRows (pre ++ [d]))) (.arr 3 1 []), none, none, none, some (.arr 3 1 (intRows pre))]⟩) ?_ ?_ (z193 45 _ (by intro e z; simp [stB, intRows])) ?_
        · simp (maxSteps := 4000000) only [go_sem]
        · refine ⟨?_, ?_, ?_, ?_, ?_, trivial⟩
          all_goals
            intro m hm hd hc
            simp only [closedM, depsM, Region.binds, true_and, and_true, Nat.zero_add, Nat.reduceAdd, reduceCtorEq, forall_const] at hc hd
            cases h1 : m 1 <;> cases h3 : m 3 <;> cases h4 : m 4 <;> (try simp [h1, h3, h4] at hc hd hm)
          all_goals
            cases h0 : m 0 <;> cases h2 : m 2 <;> (try simp [h0, h1, h2, h3, h4] at hc hd hm)
          all_goals
            refine ⟨rfl, rfl, ?_⟩
            simp (maxSteps := 4000000) only [go_sem, hm, hd, h0, h1, h2, h3, h4, hpl, hpn, hap]
        · intro K hK
          simp (maxSteps := 4000000) only [go_sem, z37, hlen d]
          refine ⟨cntF F S j, rfl, ?_⟩
          simp (maxSteps := 4000000) only [go_sem]
          refine ⟨[45], _, menuRows (F d), by decide, rfl, ih d, fun i row h => hit _ _ (z445 hd h), ?_, ?_⟩
          · refine hK _ _ ?_
            clear hK K
            repeat (first | refine nx (by first | (constructor; done) | exact .other rfl) ?_ | (refine z10 fun K hK => ?_; simp (maxSteps := 4000000) only [go_sem]; refine hK _ ?_; clear hK K))
            refine z11 rfl ?_
            repeat (first | refine nx (by first | (constructor; done) | exact .other rfl) ?_ | (refine z10 fun K hK => ?_; simp (maxSteps := 4000000) only [go_sem, hw]; refine hK _ ?_; clear hK K))
            refine ⟨j + 1, ?_, ⟨hlt, by rw [z312 hd, z65]⟩, by omega⟩
            refine z13 [] ?_ ?_ rfl rfl <;> simp [lessT, lessM, lessB, AV.less]
            all_goals first | done | rfl | trace_state
          · refine hK _ _ ?_
            clear hK K
            repeat (first | refine nx (by first | (constructor; done) | exact .other rfl) ?_ | (refine z10 fun K hK => ?_; simp (maxSteps := 4000000) only [go_sem]; refine hK _ ?_; clear hK K))
            refine z12 rfl ?_
            refine z67 (z193 49 _ (by intro e z; simp [intRows, hne])) ?_
            simp (maxSteps := 4000000) only [go_sem]
            repeat (first | refine nx (by first | (constructor; done) | exact .other rfl) ?_ | (refine z10 fun K hK => ?_; simp (maxSteps := 4000000) only [go_sem]; refine hK _ ?_; clear hK K))
            simp (maxSteps := 4000000) only [go_sem]
      · have he : j = S.length := by (have : ¬ j < S.length := by simpa using hb); omega
        subst he
        refine z67 (z193 49 _ (by intro e z; simp [intRows, hne])) ?_
        simp (maxSteps := 4000000) only [go_sem]
        repeat (first | refine nx (by first | (constructor; done) | exact .other rfl) ?_ | (refine z10 fun K hK => ?_; simp (maxSteps := 4000000) only [go_sem]; refine hK _ ?_; clear hK K))
        simp (maxSteps := 4000000) only [go_sem]
        exact (z446 F S).trans (z65 _).symm
  · simp (maxSteps := 4000000) only [go_sem]
    repeat (first | refine nx (by first | (constructor; done) | exact .other rfl) ?_ | (refine z10 fun K hK => ?_; simp (maxSteps := 4000000) only [go_sem, g1, n1, hlb, k3, hcl]; refine hK _ ?_; clear hK K))
    refine z11 rfl ?_
    repeat (first | refine nx (by first | (constructor; done) | exact .other rfl) ?_ | (refine z10 fun K hK => ?_; simp (maxSteps := 4000000) only [go_sem]; refine hK _ ?_; clear hK K))
    refine z21 (by kernel_rfl) (by kernel_rfl) fun K hK => ?_
    simp (maxSteps := 4000000) only [go_sem, g1, n1, g2, n2, k3, hcl, hct]
    refine ⟨_, .fnS (hdst := rfl) (hf := h63) (hd := rfl) (hr := .inl (z38 _)) (hfr := rfl), ?_⟩
    simp (maxSteps := 4000000) only [go_sem]
    refine ⟨by kernel_rfl, hK _ ?_⟩
    clear hK K
    repeat (first | refine nx (by first | (constructor; done) | exact .other rfl) ?_ | (refine z10 fun K hK => ?_; simp (maxSteps := 4000000) only [go_sem]; refine hK _ ?_; clear hK K))
    refine z72 [9, 10, 11, 12, 13, 14, 15, 16, 17, 18, 23, 24, 25, 26, 27, 28, 29, 30, 31, 32, 33, 34] ?_ ?_
    · simp (maxSteps := 4000000) only [go_sem]
      refine z13 [] ?_ ?_ rfl rfl <;> simp [lessT, lessM, lessB, AV.less]
    simp (maxSteps := 4000000) only [go_sem]
    refine z178 (fun (j : Nat) => [(37, .d (.i (j : Int)))]) (fun _ => []) (fun kk j => j ≤ S.length ∧ kk = some (cntF F S j)) (fun j => S.length - j) 0 ?_ ⟨Nat.zero_le _, rfl⟩ ?_
    · simp (maxSteps := 4000000) only [go_sem]
      refine z13 [] ?_ ?_ rfl rfl <;> simp [lessT, lessM, lessB, AV.less]
      all_goals first | done | rfl | trace_state
    · rintro kk j ⟨hj, rfl⟩
      simp (maxSteps := 4000000) only [go_sem]
      repeat (first | refine nx (by first | (constructor; done) | exact .other rfl) ?_ | (refine z10 fun K hK => ?_; simp (maxSteps := 4000000) only [go_sem]; refine hK _ ?_; clear hK K))
      refine z16 rfl (fun hb => ?_) (fun hb => ?_)
      · have hlt : j < S.length := by simpa using hb
        have hw : IntKind.i64.wrap ((j : Int) + 1) = ((j + 1 : Nat) : Int) := by rw [z20 (by omega)]; simp
        obtain ⟨d, hd⟩ : ∃ d, S[j]? = some d := ⟨_, List.getElem?_eq_getElem hlt⟩
        have gS := z42 hd
        have hnj : ¬ ((j : Int) < 0) := by omega
        repeat (first | refine nx (by first | (constructor; done) | exact .other rfl) ?_ | (refine z10 fun K hK => ?_; simp (maxSteps := 4000000) only [go_sem, gS, hlt, hnj]; refine hK _ ?_; clear hK K))
        refine z72 [38, 39, 40] ?_ ?_
        · simp (maxSteps := 4000000) only [go_sem]
          refine z13 [] ?_ ?_ rfl rfl <;> simp [lessT, lessM, lessB, AV.less]
        simp (maxSteps := 4000000) only [go_sem]
        refine z112 hG [46] 5 (by kernel_rfl) (by kernel_rfl) (by kernel_rfl) (by decide) (fun m => ⟨[.vc 49 pre.length, .d (.ptr k.cells 0), .d (.ptr [.i (dy : Int)] 0), .d (.ptr [.yld l] 0), .d (.ptr [.fn 98 [.ptr k.cells 0, .ptr [.i (dy : Int)] 0, .ptr [.yld l] 0, D]] 0), .undef, .undef, .undef, .d (.i d)] ++ List.replicate 26 .undef ++
            [.own 35, .d (.i (S.length : Int)), .d (.i (j : Int)), .undef, .undef, .undef, sel (m 0) (.fn 98 [.ptr k.cells 0, .ptr [.i (dy : Int)] 0, .ptr [.yld l] 0, D]), bif m 1 then .undef else .vc 49 pre.length, sel (m 2) (.i d), bif m 3 then .undef else .own 44, bif m 4 then .undef else .vh 49 (pre.length + 1), .undef, .undef, .undef],
          List.replicate 35 none ++ [some (.arr 3 1 (intRows S))] ++ List.replicate 8 none ++ [stB (m 3) true (.arr 3 1 [[.i d]]) (.arr 3 1 []), none, none, none, none, stB false (m 4) (.arrP 3 1 (intRows pre)) (.arrP 3 1 (intRows (pre ++ [d])))]⟩) ?_ ?_ (Weak.refl _) ?_
        · simp (maxSteps := 4000000) only [go_sem]
        · refine ⟨?_, ?_, ?_, ?_, ?_, trivial⟩
          all_goals
            intro m hm hd hc
            simp only [closedM, depsM, Region.binds, true_and, and_true, Nat.zero_add, Nat.reduceAdd, reduceCtorEq, forall_const] at hc hd
            cases h1 : m 1 <;> cases h3 : m 3 <;> cases h4 : m 4 <;> (try simp [h1, h3, h4] at hc hd hm)
          all_goals
            cases h0 : m 0 <;> cases h2 : m 2 <;> (try simp [h0, h1, h2, h3, h4] at hc hd hm)
          all_goals
            refine ⟨rfl, rfl, ?_⟩
            simp (maxSteps := 4000000) only [go_sem, hm, hd, h0, h1, h2, h3, h4, hpl, hpn, hap]
        · intro K hK
          simp (maxSteps := 4000000) only [go_sem, z37, hlen d]
          refine ⟨cntF F S j, rfl, ?_⟩
          simp (maxSteps := 4000000) only [go_sem]
          refine ⟨[49], _, menuRows (F d), by decide, rfl, ih d, fun i row h => hit _ _ (z445 hd h), ?_, ?_⟩
          · refine hK _ _ ?_
            clear hK K
            repeat (first | refine nx (by first | (constructor; done) | exact .other rfl) ?_ | (refine z10 fun K hK => ?_; simp (maxSteps := 4000000) only [go_sem]; refine hK _ ?_; clear hK K))
            refine z11 rfl ?_
            repeat (first | refine nx (by first | (constructor; done) | exact .other rfl) ?_ | (refine z10 fun K hK => ?_; simp (maxSteps := 4000000) only [go_sem, hw]; refine hK _ ?_; clear hK K))
            refine ⟨j + 1, ?_, ⟨hlt, by rw [z312 hd, z65]⟩, by omega⟩
            refine Weak.trans (z353 49 pre.length _) ?_
            simp (maxSteps := 4000000) only [go_sem, hfew d]
            refine z13 [] ?_ ?_ rfl rfl <;> simp [lessT, lessM, lessB, AV.less]
            all_goals first | done | rfl | trace_state
          · refine hK _ _ ?_
            clear hK K
            repeat (first | refine nx (by first | (constructor; done) | exact .other rfl) ?_ | (refine z10 fun K hK => ?_; simp (maxSteps := 4000000) only [go_sem]; refine hK _ ?_; clear hK K))
            refine z12 rfl ?_
            refine z67 (z353 49 pre.length _) ?_
            simp (maxSteps := 4000000) only [go_sem, hfew d]
            repeat (first | refine nx (by first | (constructor; done) | exact .other rfl) ?_ | (refine z10 fun K hK => ?_; simp (maxSteps := 4000000) only [go_sem]; refine hK _ ?_; clear hK K))
            simp (maxSteps := 4000000) only [go_sem]
      · have he : j = S.length := by (have : ¬ j < S.length := by simpa using hb); omega
        subst he
        repeat (first | refine nx (by first | (constructor; done) | exact .other rfl) ?_ | (refine z10 fun K hK => ?_; simp (maxSteps := 4000000) only [go_sem]; refine hK _ ?_; clear hK K))
        simp (maxSteps := 4000000) only [go_sem]
        exact (z446 F S).trans (z65 _).symm
end Go.Ab
namespace Go.Ab
open Go.RowKit Go.Proofs
set_option maxHeartbeats 16000000
set_option maxRecDepth 20000
attribute [local irreducible] WalkL Walk
theorem z652 (d : Int) : [[DV.i d]] = intRows [d] := rfl
theorem z944 (k : Kitchen) (dy l : Nat) (hd : dy < k.days.length) (hl : (k.days.getD dy []).length = 0) (D : DV) :
    YFn Try.prog 98 l [] [.nil, .d (.ptr k.cells 0), .d (.ptr [.i (dy : Int)] 0), .d (.ptr [.yld l] 0), .d D] (menuRows [[]]) := by
  have h77 := z946 [] (by decide)
  have e0 : intRows [] = [] := rfl
  rw [e0] at h77
  have g1 := z260 hd
  have n1 : ¬ ((dy : Int) < 0) := by omega
  have hlb : ((0 : Int) == ((k.days.getD dy []).length : Int)) = true := by rw [hl]; rfl
  have hcl : k.cells.length = 4 := rfl
  have k3 : k.cells[3]? = some (.sl (dayRows k.days)) := rfl
  refine z262 49 Try.call98 Try.func98 rfl (by decide) [] rfl (by kernel_rfl) fun J ITEMS hG hit => ?_
  simp (maxSteps := 4000000) only [go_sem, St.startG, Try.ntmps98, Try.results98, List.map_cons, List.map_nil, List.range_succ,  ]
  repeat (first | refine nx (by first | (constructor; done) | exact .other rfl) ?_ | (refine z10 fun K hK => ?_; simp (maxSteps := 4000000) only [go_sem, g1, n1, hlb, k3, hcl, List.length_nil, Int.natCast_zero]; refine hK _ ?_; clear hK K))
  refine z12 rfl ?_
  refine z24 ?_
  refine z244 hG [] 3 (by kernel_rfl) (by kernel_rfl) (by kernel_rfl) (by decide) fun K hK => ?_
  simp (maxSteps := 4000000) only [go_sem]
  refine ⟨_, .fnS (hdst := rfl) (hf := h77) (hd := rfl) (hr := .inr rfl) (hfr := rfl), ?_⟩
  simp (maxSteps := 4000000) only [go_sem]
  refine ⟨by kernel_rfl, ?_⟩
  refine ⟨rfl, 0, [.sl []], rfl, rfl, rfl, hit 0 _ rfl, ?_, ?_⟩
  · simp (maxSteps := 4000000) only [go_sem]
    refine hK _ _ ?_
    clear hK K
    repeat (first | refine nx (by first | (constructor; done) | exact .other rfl) ?_ | (refine z10 fun K hK => ?_; simp (maxSteps := 4000000) only [go_sem]; refine hK _ ?_; clear hK K))
    simp (maxSteps := 4000000) only [go_sem]
    rfl
  · simp (maxSteps := 4000000) only [go_sem]
    refine hK _ _ ?_
    clear hK K
    repeat (first | refine nx (by first | (constructor; done) | exact .other rfl) ?_ | (refine z10 fun K hK => ?_; simp (maxSteps := 4000000) only [go_sem]; refine hK _ ?_; clear hK K))
    simp (maxSteps := 4000000) only [go_sem]
theorem z975 (k : Kitchen) (hg : KitGood k) (dy l : Nat) (hd : dy < k.days.length) (r : Nat) (gs : List (List Int)) (hl : 0 < (k.days.getD dy []).length)
    (ih : ∀ d : Int, YFn Try.prog 98 l [.arrP 3 1 (intRows [d])] [.vh 0 1, .d (.ptr k.cells 0), .d (.ptr [.i (dy : Int)] 0), .d (.ptr [.yld l] 0), .d (cycD 98 (cycCaps98 k dy l) r)] (menuRows (addL gs [d]))) :
    YFn Try.prog 98 l [] [.nil, .d (.ptr k.cells 0), .d (.ptr [.i (dy : Int)] 0), .d (.ptr [.yld l] 0), .d (cycD 98 (cycCaps98 k dy l) (r + 1))] (menuRows (addL (suitL k (dinAt k dy 0).no :: gs) [])) := by
  have h63 := z978 k hg (dinAt k dy 0).no
  have g1 := z260 hd
  have g2 := z693 hl
  have n1 : ¬ ((dy : Int) < 0) := by omega
  have hlb : ((0 : Int) == ((k.days.getD dy []).length : Int)) = false := beq_eq_false_iff_ne.2 (by omega)
  obtain ⟨no, hno⟩ : ∃ no, no = (dinAt k dy 0).no := ⟨_, rfl⟩
  rw [Diners.row] at g2
  rw [← hno] at h63 g2 ⊢
  have hcl : k.cells.length = 4 := rfl
  have hct : k.cells.take 4 = k.cells := rfl
  have k3 : k.cells[3]? = some (.sl (dayRows k.days)) := rfl
  obtain ⟨S, hS⟩ : ∃ S, S = suitL k no := ⟨_, rfl⟩
  have hSl : S.length ≤ 5 := by have h1 := z122 k no k.dishes.length; have h2 := hg.dishes; rw [hS, suitL]; omega
  rw [← hS] at h63 ⊢
  obtain ⟨D, hD⟩ : ∃ D, D = cycD 98 (cycCaps98 k dy l) r := ⟨_, rfl⟩
  have hDs : cycD 98 (cycCaps98 k dy l) (r + 1) = .ptr [.fn 98 [.ptr k.cells 0, .ptr [.i (dy : Int)] 0, .ptr [.yld l] 0, D]] 0 := by rw [hD]; rfl
  rw [hDs]
  rw [← hD] at ih
  obtain ⟨F, hF⟩ : ∃ F, F = fun d : Int => addL gs [d] := ⟨_, rfl⟩
  have hit0 : addL (S :: gs) [] = S.flatMap F := by rw [hF]; rfl
  have ih : ∀ d : Int, YFn Try.prog 98 l [.arrP 3 1 (intRows [d])] [.vh 0 1, .d (.ptr k.cells 0), .d (.ptr [.i (dy : Int)] 0), .d (.ptr [.yld l] 0), .d D] (menuRows (F d)) := by rw [hF]; exact ih
  rw [hit0]
  refine z262 49 Try.call98 Try.func98 rfl (by decide) [] rfl (by kernel_rfl) fun J ITEMS hG hit => ?_
  simp (maxSteps := 4000000) only [go_sem, St.startG, Try.ntmps98, Try.results98, List.map_cons, List.map_nil, List.range_succ,  ]
  repeat (first | refine nx (by first | (constructor; done) | exact .other rfl) ?_ | (refine z10 fun K hK => ?_; simp (maxSteps := 4000000) only [go_sem, g1, n1, hlb, k3, hcl, List.length_nil, Int.natCast_zero]; refine hK _ ?_; clear hK K))
  refine z11 rfl ?_
  repeat (first | refine nx (by first | (constructor; done) | exact .other rfl) ?_ | (refine z10 fun K hK => ?_; simp (maxSteps := 4000000) only [go_sem]; refine hK _ ?_; clear hK K))
  refine z21 (by kernel_rfl) (by kernel_rfl) fun K hK => ?_
  simp (maxSteps := 4000000) only [go_sem, g1, n1, g2, k3, hcl, hct, List.length_nil]
  refine ⟨_, .fnS (hdst := rfl) (hf := h63) (hd := rfl) (hr := .inl (z38 _)) (hfr := rfl), ?_⟩
  simp (maxSteps := 4000000) only [go_sem]
  refine ⟨by kernel_rfl, hK _ ?_⟩
  clear hK K
  repeat (first | refine nx (by first | (constructor; done) | exact .other rfl) ?_ | (refine z10 fun K hK => ?_; simp (maxSteps := 4000000) only [go_sem]; refine hK _ ?_; clear hK K))
  refine z72 [9, 10, 11, 12, 13, 14, 15, 16, 17, 18, 23, 24, 25, 26, 27, 28, 29, 30, 31, 32, 33, 34] ?_ ?_
  · simp (maxSteps := 4000000) only [go_sem]
    refine z13 [] ?_ ?_ rfl rfl <;> simp [lessT, lessM, lessB, AV.less]
  simp (maxSteps := 4000000) only [go_sem]
  refine z178 (fun (j : Nat) => [(37, .d (.i (j : Int)))]) (fun _ => []) (fun kk j => j ≤ S.length ∧ kk = some (cntF F S j)) (fun j => S.length - j) 0 ?_ ⟨Nat.zero_le _, rfl⟩ ?_
  · simp (maxSteps := 4000000) only [go_sem]
    refine z13 [] ?_ ?_ rfl rfl <;> simp [lessT, lessM, lessB, AV.less]
    all_goals first | done | rfl | trace_state
  · rintro kk j ⟨hj, rfl⟩
    simp (maxSteps := 4000000) only [go_sem]
    repeat (first | refine nx (by first | (constructor; done) | exact .other rfl) ?_ | (refine z10 fun K hK => ?_; simp (maxSteps := 4000000) only [go_sem]; refine hK _ ?_; clear hK K))
    refine z16 rfl (fun hb => ?_) (fun hb => ?_)
    · have hlt : j < S.length := by simpa using hb
      have hw : IntKind.i64.wrap ((j : Int) + 1) = ((j + 1 : Nat) : Int) := by rw [z20 (by omega)]; simp
      obtain ⟨d, hd⟩ : ∃ d, S[j]? = some d := ⟨_, List.getElem?_eq_getElem hlt⟩
      have gS := z42 hd
      have hnj : ¬ ((j : Int) < 0) := by omega
      repeat (first | refine nx (by first | (constructor; done) | exact .other rfl) ?_ | (refine z10 fun K hK => ?_; simp (maxSteps := 4000000) only [go_sem, gS, hlt, hnj]; refine hK _ ?_; clear hK K))
      refine z72 [38, 39, 40] ?_ ?_
      · simp (maxSteps := 4000000) only [go_sem]
        refine z13 [] ?_ ?_ rfl rfl <;> simp [lessT, lessM, lessB, AV.less]
      simp (maxSteps := 4000000) only [go_sem]
      refine z112 hG [46] 5 (by kernel_rfl) (by kernel_rfl) (by kernel_rfl) (by decide) (fun m => ⟨[.nil, .d (.ptr k.cells 0), .d (.ptr [.i (dy : Int)] 0), .d (.ptr [.yld l] 0), .d (.ptr [.fn 98 [.ptr k.cells 0, .ptr [.i (dy : Int)] 0, .ptr [.yld l] 0, D]] 0), .undef, .undef, .undef, .d (.i d)] ++ List.replicate 26 .undef ++
          [.own 35, .d (.i (S.length : Int)), .d (.i (j : Int)), .undef, .undef, .undef, sel (m 0) (.fn 98 [.ptr k.cells 0, .ptr [.i (dy : Int)] 0, .ptr [.yld l] 0, D]), bif m 1 then .undef else .nil, sel (m 2) (.i d), bif m 3 then .undef else .own 44, bif m 4 then .undef else .own 45, .undef, .undef, .undef],
        List.replicate 35 none ++ [some (.arr 3 1 (intRows S))] ++ List.replicate 8 none ++ [stB (m 3) true (.arr 3 1 [[.i d]]) (.arr 3 1 []), stB (m 4) true (.arr 3 1 (intRows [d])) (.arr 3 1 []), none, none, none]⟩) ?_ ?_ (z193 45 _ (by intro e z; simp [stB, intRows])) ?_
      · simp (maxSteps := 4000000) only [go_sem]
      · refine ⟨?_, ?_, ?_, ?_, ?_, trivial⟩
        all_goals
          intro m hm hd hc
          simp only [closedM, depsM, Region.binds, true_and, and_true, Nat.zero_add, Nat.reduceAdd, reduceCtorEq, forall_const] at hc hd
          cases h1 : m 1 <;> cases h3 : m 3 <;> cases h4 : m 4 <;> (try simp [h1, h3, h4] at hc hd hm)
        all_goals
          cases h0 : m 0 <;> cases h2 : m 2 <;> (try simp [h0, h1, h2, h3, h4] at hc hd hm)
        all_goals
          refine ⟨rfl, rfl, ?_⟩
          simp (maxSteps := 4000000) only [go_sem, hm, hd, h0, h1, h2, h3, h4, z652]
      · intro K hK
        simp (maxSteps := 4000000) only [go_sem, z37]
        refine ⟨cntF F S j, rfl, ?_⟩
        simp (maxSteps := 4000000) only [go_sem]
        refine ⟨[45], _, menuRows (F d), by decide, rfl, ih d, fun i row h => hit _ _ (z445 hd h), ?_, ?_⟩
        · refine hK _ _ ?_
          clear hK K
          repeat (first | refine nx (by first | (constructor; done) | exact .other rfl) ?_ | (refine z10 fun K hK => ?_; simp (maxSteps := 4000000) only [go_sem]; refine hK _ ?_; clear hK K))
          refine z11 rfl ?_
          repeat (first | refine nx (by first | (constructor; done) | exact .other rfl) ?_ | (refine z10 fun K hK => ?_; simp (maxSteps := 4000000) only [go_sem, hw]; refine hK _ ?_; clear hK K))
          refine ⟨j + 1, ?_, ⟨hlt, by rw [z312 hd, z65]⟩, by omega⟩
          refine z13 [] ?_ ?_ rfl rfl <;> simp [lessT, lessM, lessB, AV.less]
          all_goals first | done | rfl | trace_state
        · refine hK _ _ ?_
          clear hK K
          repeat (first | refine nx (by first | (constructor; done) | exact .other rfl) ?_ | (refine z10 fun K hK => ?_; simp (maxSteps := 4000000) only [go_sem]; refine hK _ ?_; clear hK K))
          refine z12 rfl ?_
          repeat (first | refine nx (by first | (constructor; done) | exact .other rfl) ?_ | (refine z10 fun K hK => ?_; simp (maxSteps := 4000000) only [go_sem]; refine hK _ ?_; clear hK K))
          simp (maxSteps := 4000000) only [go_sem]
    · have he : j = S.length := by (have : ¬ j < S.length := by simpa using hb); omega
      subst he
      repeat (first | refine nx (by first | (constructor; done) | exact .other rfl) ?_ | (refine z10 fun K hK => ?_; simp (maxSteps := 4000000) only [go_sem]; refine hK _ ?_; clear hK K))
      simp (maxSteps := 4000000) only [go_sem]
      exact (z446 F S).trans (z65 _).symm
theorem z548 {k : Kitchen} {dy i : Nat} (h : i < (k.days.getD dy []).length) : (suitDay k dy).drop i = suitL k (dinAt k dy i).no :: (suitDay k dy).drop (i + 1) := by
  have hl : i < (suitDay k dy).length := by simpa [suitDay] using h
  have e : (suitDay k dy)[i]? = some (suitL k (dinAt k dy i).no) := by
    rw [suitDay, List.getElem?_map, List.getElem?_eq_getElem h, Option.map_some]
    unfold dinAt
    rw [List.getD_eq_getElem?_getD (l := k.days.getD dy []), List.getElem?_eq_getElem h]
    rfl
  rw [List.getElem?_eq_getElem hl] at e
  rw [List.drop_eq_getElem_cons hl, Option.some.inj e]
theorem z945 (k : Kitchen) (hg : KitGood k) (dy l : Nat) (hd : dy < k.days.length) : ∀ (r : Nat) (pre : List Int), pre ≠ [] → pre.length + r = (k.days.getD dy []).length → pre.length < 2 ^ 20 - r →
    YFn Try.prog 98 l [.arrP 3 1 (intRows pre)] [.vh 0 pre.length, .d (.ptr k.cells 0), .d (.ptr [.i (dy : Int)] 0), .d (.ptr [.yld l] 0), .d (cycD 98 (cycCaps98 k dy l) r)] (menuRows (addL ((suitDay k dy).drop pre.length) pre))
  | 0, pre, hne, hl, hsm => by
    have e : (suitDay k dy).drop pre.length = [] := List.drop_eq_nil_of_le (by simp [suitDay]; simp at hl; omega)
    rw [e]
    exact z973 k dy l hd pre hne (by omega) (by omega) _
  | r + 1, pre, hne, hl, hsm => by
    rw [z548 (by omega)]
    refine z974 k hg dy l hd pre hne r _ (by omega) (by omega) fun d => ?_
    have e : (pre ++ [d]).length = pre.length + 1 := by simp
    have := z945 k hg dy l hd r (pre ++ [d]) (by simp) (by omega) (by omega)
    rw [e] at this
    exact this
def choicesL (k : Kitchen) (dy : Nat) : List (List Int) := addL (suitDay k dy) []
theorem z1012 (k : Kitchen) (hg : KitGood k) (dy l : Nat) (hd : dy < k.days.length) :
    YFn Try.prog 98 l [] [.nil, .d (.ptr k.cells 0), .d (.ptr [.i (dy : Int)] 0), .d (.ptr [.yld l] 0), .d (cycD 98 (cycCaps98 k dy l) (k.days.getD dy []).length)] (menuRows (choicesL k dy)) := by
  have h3 : (k.days.getD dy []).length ≤ 3 := by
    rw [List.getD, List.getElem?_eq_getElem hd]
    exact (hg.groups _ (List.getElem_mem hd)).1
  unfold choicesL
  cases hr : (k.days.getD dy []).length with
  | zero =>
    have e : suitDay k dy = [] := by rw [suitDay, List.map_eq_nil_iff]; exact List.eq_nil_of_length_eq_zero hr
    rw [e]
    exact z944 k dy l hd hr _
  | succ r =>
    have e : suitDay k dy = (suitDay k dy).drop 0 := rfl
    rw [e, z548 (by omega)]
    refine z975 k hg dy l hd r _ (by omega) fun d => ?_
    exact z945 k hg dy l hd r [d] (by simp) (by rw [hr]; exact Nat.add_comm _ _) (by rw [List.length_singleton]; omega)
theorem z1013 (k : Kitchen) (hg : KitGood k) (dy : Nat) (hd : dy < k.days.length) : IterE Try.prog 97 [] (fun l => [.d (.yld l), .d (.ptr k.cells 0), .d (.ptr [.i (dy : Int)] 0)]) (menuRows (choicesL k dy)) := by
  have h98 := fun l => z1012 k hg dy l hd
  obtain ⟨r, hr⟩ : ∃ r, r = (k.days.getD dy []).length := ⟨_, rfl⟩
  rw [← hr] at h98
  refine z760 8 Try.call97 Try.func97 rfl rfl fun l J hG => ?_
  simp (maxSteps := 4000000) only [go_sem, St.startG, Try.ntmps97, Try.results97, List.map_cons, List.map_nil, List.range_succ,  ]
  repeat (first | refine nx (by first | (constructor; done) | exact .other rfl) ?_ | (refine z10 fun K hK => ?_; simp (maxSteps := 4000000) only [go_sem]; refine hK _ ?_; clear hK K))
  refine z25 [3] ?_
  simp (maxSteps := 4000000) only [go_sem]
  refine z67 (z854 4 (r + 1) _) ?_
  simp (maxSteps := 4000000) only [go_sem, cycD, List.map_cons, List.map_nil, Option.getD_some, Option.getD_none, Option.map_some]
  refine z382 hG [7] fun K hK => ?_
  simp (maxSteps := 4000000) only [go_sem]
  refine ⟨0, rfl, ?_⟩
  simp (maxSteps := 4000000) only [go_sem]
  refine ⟨[], [], menuRows (choicesL k dy), by decide, rfl, h98 l, fun i row h => by simpa using h, ?_, ?_⟩
  · refine hK _ _ ?_
    clear hK K
    repeat (first | refine nx (by first | (constructor; done) | exact .other rfl) ?_ | (refine z10 fun K hK => ?_; simp (maxSteps := 4000000) only [go_sem]; refine hK _ ?_; clear hK K))
    simp (maxSteps := 4000000) only [go_sem]
  · refine hK _ _ ?_
    clear hK K
    repeat (first | refine nx (by first | (constructor; done) | exact .other rfl) ?_ | (refine z10 fun K hK => ?_; simp (maxSteps := 4000000) only [go_sem]; refine hK _ ?_; clear hK K))
    simp (maxSteps := 4000000) only [go_sem]
theorem z1030 (k : Kitchen) (dy : Nat) : Fn Try.prog 78 [.agg k.cells, .i (dy : Int)] (.fn 97 [.ptr k.cells 0, .ptr [.i (dy : Int)] 0]) := by
  refine z22 6 Try.call78 Try.func78 rfl (by decide) fun J => ?_
  simp (maxSteps := 4000000) only [go_sem, St.start, Try.ntmps78, Try.results78, Kitchen.cells]
  repeat (first | refine nx (by first | (constructor; done) | exact .other rfl) ?_ | (refine z10 fun K hK => ?_; simp (maxSteps := 4000000) only [go_sem]; refine hK _ ?_; clear hK K))
  simp (maxSteps := 4000000) only [go_sem]
end Go.Ab
