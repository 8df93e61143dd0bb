/- A walk engine over abstract states, and the contracts of the functions that the statement reaches: part 6. -/
import Derived.Test.YtgjnckiifffneaaWe
set_option linter.unusedVariables false
set_option linter.unusedSimpArgs false
set_option linter.unnecessarySimpa false
namespace Go.Ab
open Go.RowKit Go.Proofs
theorem z603 {k : Kitchen} {buy : List Int} (h30 : ∀ b ∈ k.batches, b.last ≤ 30) {good : Nat} {l r : List Int} {need : Int} (hl : l.length = k.batches.length) (hr : r.length = buy.length) (hg : good < buy.length)
    (hs : getI r (good : Int) < (takeG k (ordK k) good l need).2) : (takeG (moreK k buy) (ordK (moreK k buy)) good (l ++ r) need).2 > 0 := by
  have hlen : ∀ (o : List Nat) (a : List Int × Int), (o.foldl (takeStep k good) a).1.length = a.1.length := by
    intro o
    induction o with
    | nil => intro a; rfl
    | cons x o ih => intro a; rw [List.foldl_cons, ih, z435]
  rw [takeG, z523 buy h30, List.foldl_append, z319 (ordK k) l need hl (fun x hx => z41 hx)]
  rw [z245 (by rw [hlen]; exact hl) hr buy.length (Nat.le_refl _), if_pos hg]
  change getI r (good : Int) < (takeG k (ordK k) good l need).2 at hs
  change (takeG k (ordK k) good l need).2 - min (takeG k (ordK k) good l need).2 (getI r (good : Int)) > 0
  omega
section
variable {k : Kitchen} {needs C b : List Int} {B : Int} (hC : AmtOk C) (hb : BuyOk B b) (hB : 0 ≤ B) (hn : ∀ x ∈ needs, 0 ≤ x ∧ x ≤ 2 ^ 40)
include hC hb hB hn
theorem z223 {buy : List Int} (h30 : ∀ x ∈ k.batches, x.last ≤ 30) (hl : C.length = k.batches.length) (hbl : b.length = buy.length) : ∀ g, g ≤ buy.length → LeL (ordG k (ordK k) needs (C, b) g).2 buy →
    takeTo (moreK k buy) (ordK (moreK k buy)) needs (C ++ restL buy b) g = some ((ordG k (ordK k) needs (C, b) g).1 ++ restL buy (ordG k (ordK k) needs (C, b) g).2)
  | 0, _, _ => rfl
  | g + 1, hg, hle => by
    have hm := z524 (k := k) hC hb hB hn (g := g) (g' := g + 1) (by omega) (by omega)
    have ih := z223 h30 hl hbl g (by omega) (hm.trans hle)
    obtain ⟨_, h2, _, h4, _⟩ := z234 (k := k) (o := ordK k) (a := (C, b)) hC hb hB hn g
    dsimp only at h2 h4
    have e1 : (ordG k (ordK k) needs (C, b) (g + 1)).2 = (ordG k (ordK k) needs (C, b) g).2.set g (getI (ordG k (ordK k) needs (C, b) g).2 (g : Int) + (takeG k (ordK k) g (ordG k (ordK k) needs (C, b) g).1 (getI needs (g : Int))).2) := rfl
    have hs : (takeG k (ordK k) g (ordG k (ordK k) needs (C, b) g).1 (getI needs (g : Int))).2 ≤ getI (restL buy (ordG k (ordK k) needs (C, b) g).2) (g : Int) := by
      have h5 := hle g
      rw [e1, z65 (by omega)] at h5
      rw [z443 (by omega)]
      omega
    have ht := z739 (buy := buy) h30 (good := g) (need := getI needs (g : Int)) (l := (ordG k (ordK k) needs (C, b) g).1) (r := restL buy (ordG k (ordK k) needs (C, b) g).2) (by omega) (z157 _ _) (by omega) hs
    rw [takeTo, ih]
    dsimp only
    rw [ht]
    dsimp only
    rw [if_neg (by decide), z844 (by omega) (by omega)]
    rfl
theorem z737 {buy : List Int} (h30 : ∀ x ∈ k.batches, x.last ≤ 30) (hl : C.length = k.batches.length) (hbl : b.length = buy.length) {g : Nat} (hg : g < buy.length) (hle : LeL (ordG k (ordK k) needs (C, b) g).2 buy)
    (hno : ¬ LeL (ordG k (ordK k) needs (C, b) (g + 1)).2 buy) : takeTo (moreK k buy) (ordK (moreK k buy)) needs (C ++ restL buy b) (g + 1) = none := by
  have ih := z223 hC hb hB hn h30 hl hbl g (by omega) hle
  obtain ⟨_, h2, _, h4, _⟩ := z234 (k := k) (o := ordK k) (a := (C, b)) hC hb hB hn g
  dsimp only at h2 h4
  have e1 : (ordG k (ordK k) needs (C, b) (g + 1)).2 = (ordG k (ordK k) needs (C, b) g).2.set g (getI (ordG k (ordK k) needs (C, b) g).2 (g : Int) + (takeG k (ordK k) g (ordG k (ordK k) needs (C, b) g).1 (getI needs (g : Int))).2) := rfl
  have hs : getI (restL buy (ordG k (ordK k) needs (C, b) g).2) (g : Int) < (takeG k (ordK k) g (ordG k (ordK k) needs (C, b) g).1 (getI needs (g : Int))).2 := by
    rw [z443 (by omega)]
    by_cases hc : (takeG k (ordK k) g (ordG k (ordK k) needs (C, b) g).1 (getI needs (g : Int))).2 ≤ getI buy (g : Int) - getI (ordG k (ordK k) needs (C, b) g).2 (g : Int)
    · refine absurd (fun i => ?_) hno
      rw [e1]
      by_cases hi : g = i
      · subst hi
        rw [z65 (by omega)]
        omega
      · rw [z105 hi]
        exact hle i
    · omega
  have ht := z603 (buy := buy) h30 (good := g) (need := getI needs (g : Int)) (l := (ordG k (ordK k) needs (C, b) g).1) (r := restL buy (ordG k (ordK k) needs (C, b) g).2) (by omega) (z157 _ _) (by omega) hs
  rw [takeTo, ih]
  dsimp only
  rw [if_pos ht]
theorem z702 {buy : List Int} (h30 : ∀ x ∈ k.batches, x.last ≤ 30) (hl : C.length = k.batches.length) (hbl : b.length = buy.length) (h0 : LeL b buy) : ∀ g, g ≤ buy.length → ¬ LeL (ordG k (ordK k) needs (C, b) g).2 buy →
    takeTo (moreK k buy) (ordK (moreK k buy)) needs (C ++ restL buy b) g = none
  | 0, _, hno => absurd h0 hno
  | g + 1, hg, hno => by
    by_cases h : LeL (ordG k (ordK k) needs (C, b) g).2 buy
    · exact z737 hC hb hB hn h30 hl hbl (by omega) h hno
    · exact z131 (z702 h30 hl hbl h0 g (by omega) h) (by omega)
end
section
variable {k : Kitchen} (hg : KitGood k) {M : List (List Int)} (hM : shapedB (menuB k) M k.days = true) {buy : List Int} (hbuy : buy.length = k.allerg.length)
include hg hM hbuy
theorem z296 : ∀ d, d ≤ M.length → LeL (ordD k M d).2.1 buy → runSt (moreK k buy) M (hiC k) d = some ((ordD k M d).1 ++ restL buy (ordD k M d).2.1, (ordD k M d).2.2)
  | 0, _, _ => by rw [runSt, z957, restL, hbuy]; simp only [ordD, restL, List.length_replicate, hbuy]
  | d + 1, hd, hle => by
    have h30 : ∀ b ∈ k.batches, b.last ≤ 30 := fun b hb => (hg.batch b hb).2.2.2
    have hMl := z37 hM
    have hdl := hg.days
    obtain ⟨h1, h2, h3, h4, h5, h6⟩ := z235 hg hM d (by omega)
    obtain ⟨c1, _⟩ := z42 (k := k) (day := (d : Int)) (w := (ordD k M d).2.2) h1 k.batches.length
    have c4 := z32 k (d : Int) (ordD k M d).1 (ordD k M d).2.2 k.batches.length
    have hmono : LeL (ordD k M d).2.1 (ordD k M (d + 1)).2.1 := z851 hg hM (by omega) (by omega)
    have ih := z296 d (by omega) (hmono.trans hle)
    have hcl : clrD (moreK k buy) d ((ordD k M d).1 ++ restL buy (ordD k M d).2.1, (ordD k M d).2.2) = ((clrTo k (d : Int) (ordD k M d).1 (ordD k M d).2.2 k.batches.length).1 ++ restL buy (ordD k M d).2.1, (clrTo k (d : Int) (ordD k M d).1 (ordD k M d).2.2 k.batches.length).2) := by
      rw [clrD, z274]
      exact z463 (by omega) (by omega) _ (Nat.le_refl _)
    have ht := z223 (k := k) (needs := needD k M (hiC k) d) (C := (clrTo k (d : Int) (ordD k M d).1 (ordD k M d).2.2 k.batches.length).1) (b := (ordD k M d).2.1) c1 h3 (by omega) (z450 hg hM (by omega)) (buy := buy) h30 (by omega) (by omega) k.allerg.length (by omega) hle
    rw [runSt, ih]
    dsimp only
    rw [hcl]
    dsimp only
    rw [z378]
    change Option.map _ (takeTo (moreK k buy) (ordK (moreK k buy)) (needD k M (hiC k) d) _ k.allerg.length) = _
    rw [ht, z525]
    rfl
theorem z838 {d : Nat} (hd : d < M.length) (hle : LeL (ordD k M d).2.1 buy) (hno : ¬ LeL (ordD k M (d + 1)).2.1 buy) : runSt (moreK k buy) M (hiC k) (d + 1) = none := by
  have h30 : ∀ b ∈ k.batches, b.last ≤ 30 := fun b hb => (hg.batch b hb).2.2.2
  have hMl := z37 hM
  have hdl := hg.days
  obtain ⟨h1, h2, h3, h4, h5, h6⟩ := z235 hg hM d (by omega)
  obtain ⟨c1, _⟩ := z42 (k := k) (day := (d : Int)) (w := (ordD k M d).2.2) h1 k.batches.length
  have c4 := z32 k (d : Int) (ordD k M d).1 (ordD k M d).2.2 k.batches.length
  have ih := z296 hg hM hbuy d (by omega) hle
  have hcl : clrD (moreK k buy) d ((ordD k M d).1 ++ restL buy (ordD k M d).2.1, (ordD k M d).2.2) = ((clrTo k (d : Int) (ordD k M d).1 (ordD k M d).2.2 k.batches.length).1 ++ restL buy (ordD k M d).2.1, (clrTo k (d : Int) (ordD k M d).1 (ordD k M d).2.2 k.batches.length).2) := by
    rw [clrD, z274]
    exact z463 (by omega) (by omega) _ (Nat.le_refl _)
  have ht := z702 (k := k) (needs := needD k M (hiC k) d) (C := (clrTo k (d : Int) (ordD k M d).1 (ordD k M d).2.2 k.batches.length).1) (b := (ordD k M d).2.1) c1 h3 (by omega) (z450 hg hM (by omega)) (buy := buy) h30 (by omega) (by omega) hle k.allerg.length (by omega) hno
  rw [runSt, ih]
  dsimp only
  rw [hcl]
  dsimp only
  rw [z378]
  change Option.map _ (takeTo (moreK k buy) (ordK (moreK k buy)) (needD k M (hiC k) d) _ k.allerg.length) = _
  rw [ht]
  rfl
theorem z509 (h0 : ∀ i : Nat, 0 ≤ getI buy (i : Int)) : ∀ d, d ≤ M.length → ¬ LeL (ordD k M d).2.1 buy → runSt (moreK k buy) M (hiC k) d = none
  | 0, _, hno => by
    refine absurd (fun i => ?_) hno
    rw [ordD, z244]
    exact h0 i
  | d + 1, hd, hno => by
    by_cases h : LeL (ordD k M d).2.1 buy
    · exact z838 hg hM hbuy (by omega) h hno
    · exact z170 (z509 h0 d (by omega) h) (by omega)
theorem z522 (h0 : ∀ i : Nat, 0 ≤ getI buy (i : Int)) : mostK (moreK k buy) M = k.days.length ↔ LeL (orderK k M) buy := by
  have hMl := z37 hM
  have hm := z930 (k := moreK k buy) (M := M) hMl
  change mostK (moreK k buy) M = k.days.length ↔ (runSt (moreK k buy) M (hiC k) M.length).isSome = true at hm
  rw [hm]
  constructor
  · intro h
    by_cases hle : LeL (orderK k M) buy
    · exact hle
    · rw [z509 hg hM hbuy h0 M.length (Nat.le_refl _) hle] at h
      cases h
  · intro hle
    rw [z296 hg hM hbuy M.length (Nat.le_refl _) hle]
    rfl
end
theorem z850 {k : Kitchen} {o : List Nat} {needs : List Int} {a : List Int × List Int} {B N : Int} (h : AmtOk a.1) (hb : BuyOk B a.2) (hB : 0 ≤ B) (hN : 0 ≤ N) (hn : ∀ x ∈ needs, 0 ≤ x ∧ x ≤ N) (g : Nat) :
    AmtOk (ordG k o needs a g).1 ∧ BuyOk (B + N) (ordG k o needs a g).2 ∧ ∀ i : Nat, g ≤ i → getI (ordG k o needs a g).2 (i : Int) = getI a.2 (i : Int) := by
  induction g with
  | zero => exact ⟨h, fun x hx => by have := hb x hx; omega, fun _ _ => rfl⟩
  | succ g ih =>
    obtain ⟨h1, h3, h5⟩ := ih
    have hng : 0 ≤ getI needs (g : Int) ∧ getI needs (g : Int) ≤ N := z79 hn ⟨Int.le_refl 0, hN⟩ _
    have ht := z167 (k := k) (good := g) o (a := ((ordG k o needs a g).1, getI needs (g : Int))) h1 hng.1
    change AmtOk (takeG k o g (ordG k o needs a g).1 (getI needs (g : Int))).1 ∧ (takeG k o g (ordG k o needs a g).1 (getI needs (g : Int))).1.length = (ordG k o needs a g).1.length ∧ 0 ≤ (takeG k o g (ordG k o needs a g).1 (getI needs (g : Int))).2 ∧ (takeG k o g (ordG k o needs a g).1 (getI needs (g : Int))).2 ≤ getI needs (g : Int) at ht
    obtain ⟨t1, t2, t3, t4⟩ := ht
    have hbg : 0 ≤ getI a.2 (g : Int) ∧ getI a.2 (g : Int) ≤ B := z79 hb ⟨Int.le_refl 0, hB⟩ _
    refine ⟨t1, ?_, fun i hi => ?_⟩
    · intro x hx
      rw [ordG] at hx
      rcases List.mem_or_eq_of_mem_set hx with hx | hx
      · exact h3 x hx
      · rw [hx, h5 g (Nat.le_refl _)]
        omega
    · rw [ordG]
      dsimp only
      rw [z105 (by omega)]
      exact h5 i (by omega)
theorem z526 {k : Kitchen} (hg : KitGood k) {M : List (List Int)} (hM : shapedB (menuB k) M k.days = true) : ∀ d, d ≤ M.length → BuyOk (1500000 * d) (ordD k M d).2.1
  | 0, _ => fun x hx => by rw [ordD] at hx; have := List.eq_of_mem_replicate hx; omega
  | d + 1, hd => by
    have ih := z526 hg hM d (by omega)
    obtain ⟨h1, _⟩ := z235 hg hM d (by omega)
    obtain ⟨r, hr⟩ : ∃ r, M[d]? = some r := ⟨_, List.getElem?_eq_getElem (by omega)⟩
    obtain ⟨_, _, hdo⟩ := z109 hg hM (z684 hg) hr
    have hnd : needD k M (hiC k) d = needL k r (hiC k d) := by rw [needD, List.getD_eq_getElem?_getD, hr]; rfl
    obtain ⟨c1, _⟩ := z42 (k := k) (day := (d : Int)) (w := (ordD k M d).2.2) h1 k.batches.length
    have hn : ∀ x ∈ needD k M (hiC k) d, 0 ≤ x ∧ x ≤ 1500000 := fun x hx => by
      rw [hnd] at hx
      obtain ⟨g, _, rfl⟩ := List.mem_map.1 hx
      have h1 : 0 ≤ needG k r (hiC k d) g r.length ∧ needG k r (hiC k d) g r.length ≤ 500000 * (r.length : Int) := z123 hg hdo g r.length (Nat.le_refl _)
      have h2 : r.length ≤ 3 := hdo.len
      change 0 ≤ needG k r (hiC k d) g r.length ∧ needG k r (hiC k d) g r.length ≤ 1500000
      omega
    have := (z850 (k := k) (o := ordK k) (a := ((clrTo k (d : Int) (ordD k M d).1 (ordD k M d).2.2 k.batches.length).1, (ordD k M d).2.1)) c1 ih (by omega) (by decide : (0 : Int) ≤ 1500000) hn k.allerg.length).2.1
    rw [z525]
    dsimp only
    intro x hx
    have := this x hx
    push_cast
    omega
theorem z376 {k : Kitchen} (hg : KitGood k) {M : List (List Int)} (hM : shapedB (menuB k) M k.days = true) (i : Nat) : 0 ≤ getI (orderK k M) (i : Int) ∧ getI (orderK k M) (i : Int) ≤ 9000000 := by
  have h := z526 hg hM M.length (Nat.le_refl _)
  have hMl := z37 hM
  have hd := hg.days
  have : 0 ≤ getI (orderK k M) (i : Int) ∧ getI (orderK k M) (i : Int) ≤ 1500000 * (M.length : Int) := z79 h ⟨Int.le_refl 0, by omega⟩ _
  omega
theorem z541 {k : Kitchen} (hg : KitGood k) {buy : List Int} (hb : buy.length = k.allerg.length) (h : ∀ i : Nat, 0 ≤ getI buy (i : Int) ∧ getI buy (i : Int) ≤ 9000000) : KitWide (moreK k buy) := by
  have hgd := hg.goods
  have hbt := hg.batches
  refine ⟨hg.goods, hg.allerg, by rw [z274]; omega, fun b hbm => ?_, hg.dishes, hg.needs, hg.days, hg.groups⟩
  rcases List.mem_append.1 hbm with hbm | hbm
  · exact (hg.wide.batch b hbm)
  · obtain ⟨g, hgm, rfl⟩ := List.mem_map.1 hbm
    have := List.mem_range.1 hgm
    refine ⟨⟨by dsimp only; omega, ?_⟩, h g, by dsimp only; omega⟩
    change (g : Int) < k.allerg.length
    omega
end Go.Ab
/- What a function makes of its own, told as a deep value. -/
namespace Go.Ab
open Go.RowKit
theorem FnG.deep {P : Program} {f : FuncId} {args : List DV} {r : AV} {m1 : List Blk} {d : DV} (h : FnG P f [] [] (args.map AV.d) r m1) (hr : reify (m1.map some) Ab.deep r = some d) : Fn P f args d :=
  ⟨h.enters, fun w own vs hb hh hd => (h.calls (ltU w.heap.size) w own (fun _ => none) vs hb (fun _ h => h)
      ⟨fun n b h => by simp at h, fun n h => by simp at h, fun n k b z l c z' l' c' h => by simp at h, fun n b z l c h => by simp at h⟩
      (hh.less fun b hb => hb.elim id fun ⟨_, _, _, _, h⟩ => by simp at h) (by simpa using hd.1) (fun i x v hx hv => by
        simp only [List.getElem?_map, Option.map_eq_some_iff] at hx
        obtain ⟨y, hy, rfl⟩ := hx
        refine .d ((hd.2 i y v hy hv).goes fun b o u h1 h2 => ⟨fun hc => h1 (hc.elim id fun ⟨_, _, _, _, h⟩ => by simp at h), h2⟩))).mono fun en w' hq => by
    obtain ⟨v, μ1, he, hv, hm, hk, _⟩ := hq
    exact ⟨v, he, z60 hm own (fun b hb => .inl hb) (fun _ => True) (fun n b z l c _ hμ => (hm.base n b z l c hμ).2.2) Ab.deep r v d hv hr (fun _ _ => trivial) (.inl fun _ _ _ _ _ _ => trivial), hk.keep.below.to⟩⟩
end Go.Ab
namespace Go.Ab
open Go.RowKit Go.Proofs
set_option maxHeartbeats 16000000
set_option maxRecDepth 20000
attribute [local irreducible] WalkL Walk
end Go.Ab
namespace Go.Ab
open Go.RowKit Go.Proofs
set_option maxHeartbeats 16000000
set_option maxRecDepth 20000
attribute [local irreducible] WalkL Walk
theorem z1042 (k : Kitchen) (hs : KitSmall k) : FnG Try.prog 14 [] [] (List.map AV.d [.agg k.cells]) (.agg [.own 0, .own 1, .own 2, .own 3])
    [.arr 3 1 (intRows k.allerg), .arr 47 3 (batRows k.batches), .arr 72 1 (dishRows k.dishes), .arr 58 1 (dayRows k.days)] := by
  have a1 := hs.allerg
  have a2 := hs.batches
  have a3 := hs.dishes
  have a5 := hs.days
  have e1 : k.allerg.length ≤ 549755813888 := by omega
  have e2 : k.batches.length ≤ 549755813888 := by omega
  have hcl : k.cells.length = 4 := rfl
  have k0 : k.cells[0]? = some (.sl (intRows k.allerg)) := rfl
  have k1 : k.cells[1]? = some (.sl (batRows k.batches)) := rfl
  have k2 : k.cells[2]? = some (.sl (dishRows k.dishes)) := rfl
  have k3 : k.cells[3]? = some (.sl (dayRows k.days)) := rfl
  have hct : k.cells.take 4 = k.cells := rfl
  have hh : headIs 1 (intRows k.allerg) = true := by cases k.allerg <;> rfl
  refine z58 56 Try.call14 Try.func14 rfl (by decide) [6, 10, 34, 53] [] (by simp only [List.length_cons, List.length_nil]; decide) (by kernel_rfl) fun J => ?_
  simp (maxSteps := 4000000) only [go_sem, St.startG, Try.ntmps14, Try.results14, List.map_cons, List.map_nil, List.range_succ,  Kitchen.cells]
  repeat (first | refine nx ?_ | (refine z10 fun K hK => ?_; simp (maxSteps := 4000000) only [go_sem]; refine hK _ ?_; clear hK K))
  refine z20 [1] ?_
  simp (maxSteps := 4000000) only [go_sem]
  refine z255 (by kernel_rfl) (by kernel_rfl) (fun m => ⟨[.d (.agg k.cells), .d (.ptr k.cells 0), .box 2 0, bif m 9 then .undef else .box 3 0, .undef, .undef,
      bif m 0 then .undef else (bif m 3 then .own 6 else .undef), sel (m 1) (.ptr k.cells 0), sel (m 2) (.sl (intRows k.allerg)), bif m 3 then .undef else .own 6,
      bif m 4 then .undef else (bif m 7 then .own 10 else .undef), sel (m 5) (.ptr k.cells 1), sel (m 6) (.sl (batRows k.batches)), bif m 7 then .undef else .own 10,
      bif m 8 then .undef else .agg [.own 6, .own 10, .nil, .nil]] ++ List.replicate 41 .undef,
    [none, none, some (.box [.nil, .nil, .nil, .nil]), stB (m 9) (m 10) (.box [.nil, .nil, .nil, .nil]) (.box [.own 6, .own 10, .nil, .nil]), none, none,
      stB (m 0) (m 3) (.arr 3 1 []) (.arr 3 1 (intRows k.allerg)), none, none, none, stB (m 4) (m 7) (.arr 47 3 []) (.arr 47 3 (batRows k.batches))] ++ List.replicate 45 none⟩) ?_ ?_ ?_
  · simp (maxSteps := 4000000) only [go_sem]
    rfl
  · refine ⟨?_, ?_, ?_, ?_, ?_, ?_, ?_, ?_, ?_, ?_, ?_, trivial⟩
    all_goals
      intro m hm hd hc
      simp only [closedM, depsM, Region.binds, true_and, and_true, Nat.zero_add, Nat.reduceAdd, reduceCtorEq, forall_const] at hc hd
      cases h0 : m 0 <;> cases h3 : m 3 <;> cases h4 : m 4 <;> cases h7 : m 7 <;> (try simp [h0, h3, h4, h7] at hc hd hm)
    all_goals
      cases h8 : m 8 <;> cases h9 : m 9 <;> cases h10 : m 10 <;> (try simp [h0, h3, h4, h7, h8, h9, h10] at hc hd hm)
    all_goals
      refine ⟨rfl, rfl, ?_⟩
      simp (maxSteps := 4000000) only [go_sem, hm, hd, h0, h3, h4, h7, h8, h9, h10, hcl, hct, k0, k1, e1, e2, hh, z588, List.nil_append, List.length_nil, Nat.zero_add]
  · simp (maxSteps := 4000000) only [go_sem]
    repeat (first | refine nx ?_ | (refine z10 fun K hK => ?_; simp (maxSteps := 4000000) only [go_sem]; refine hK _ ?_; clear hK K))
    refine z15 (fun (i : Nat) => [(4, .d (.i (i : Int)))]) (fun i => [(3, some (.box [.own 6, .own 10, .own 34, .nil])), (34, some (.arr 72 1 (dishRows (k.dishes.take i))))]) (fun i => i ≤ k.dishes.length) (fun i => k.dishes.length - i) 0 ?_ (Nat.zero_le _) ?_
    · simp (maxSteps := 4000000) only [go_sem]
      refine z13 [34] ?_ ?_ rfl rfl <;> simp [lessT, lessM, lessB, AV.less, dishRows]
    · intro i hi
      simp (maxSteps := 4000000) only [go_sem]
      repeat (first | refine nx ?_ | (refine z10 fun K hK => ?_; simp (maxSteps := 4000000) only [go_sem, k2]; refine hK _ ?_; clear hK K))
      refine z14 rfl (fun hb => ?_) (fun hb => ?_)
      · have hlt : i < k.dishes.length := by simpa using hb
        have hw : IntKind.i64.wrap ((i : Int) + 1) = ((i + 1 : Nat) : Int) := by rw [z16 (by omega)]; simp
        obtain ⟨x, hx⟩ : ∃ x, k.dishes[i]? = some x := ⟨_, List.getElem?_eq_getElem hlt⟩
        have g1 := z108 hx
        rw [Dish.row] at g1
        have hni : ¬ ((i : Int) < 0) := by omega
        have hxn := hs.needs x (List.mem_of_getElem? hx)
        have e3 : x.needs.length ≤ 549755813888 := by omega
        have hh2 : headIs 1 (intRows x.needs) = true := by cases x.needs <;> rfl
        have hlt2 : (k.dishes.take i).length + 1 ≤ 549755813888 := by rw [List.length_take]; omega
        have htk : dishRows (k.dishes.take i) ++ [[.sl (intRows x.needs)]] = dishRows (k.dishes.take (i + 1)) := by rw [List.take_add_one, hx]; simp [dishRows, Dish.row]
        repeat (first | refine nx ?_ | (refine z10 fun K hK => ?_; simp (maxSteps := 4000000) only [go_sem]; refine hK _ ?_; clear hK K))
        refine z149 [31] (by kernel_rfl) (by kernel_rfl) fun K hK => ?_
        simp (maxSteps := 4000000) only [go_sem, k2, g1, hni, e3, hh2, hlt2, htk, List.nil_append, List.length_nil, Nat.zero_add]
        refine ⟨by kernel_rfl, hK _ ?_⟩
        clear hK K
        repeat (first | refine nx ?_ | (refine z10 fun K hK => ?_; simp (maxSteps := 4000000) only [go_sem, hw]; refine hK _ ?_; clear hK K))
        refine ⟨rfl, i + 1, ?_, hlt, by omega⟩
        refine z13 [] ?_ ?_ rfl rfl <;> simp [lessT, lessM, lessB, AV.less]
        all_goals first | done | rfl | trace_state
      · have he : i = k.dishes.length := by (have : ¬ i < k.dishes.length := by simpa using hb); omega
        subst he
        rw [List.take_length]
        repeat (first | refine nx ?_ | (refine z10 fun K hK => ?_; simp (maxSteps := 4000000) only [go_sem]; refine hK _ ?_; clear hK K))
        refine z15 (fun (i : Nat) => [(5, .d (.i (i : Int)))]) (fun i => [(3, some (.box [.own 6, .own 10, .own 34, .own 53])), (53, some (.arr 58 1 (dayRows (k.days.take i))))]) (fun i => i ≤ k.days.length) (fun i => k.days.length - i) 0 ?_ (Nat.zero_le _) ?_
        · simp (maxSteps := 4000000) only [go_sem]
          refine z13 [53] ?_ ?_ rfl rfl <;> simp [lessT, lessM, lessB, AV.less, dayRows]
        · intro i hi
          simp (maxSteps := 4000000) only [go_sem]
          repeat (first | refine nx ?_ | (refine z10 fun K hK => ?_; simp (maxSteps := 4000000) only [go_sem, k3]; refine hK _ ?_; clear hK K))
          refine z14 rfl (fun hb => ?_) (fun hb => ?_)
          · have hlt : i < k.days.length := by simpa using hb
            have hw : IntKind.i64.wrap ((i : Int) + 1) = ((i + 1 : Nat) : Int) := by rw [z16 (by omega)]; simp
            obtain ⟨x, hx⟩ : ∃ x, k.days[i]? = some x := ⟨_, List.getElem?_eq_getElem hlt⟩
            have g1 := z69 hx
            have hni : ¬ ((i : Int) < 0) := by omega
            have hxn := hs.groups x (List.mem_of_getElem? hx)
            have e3 : x.length ≤ 549755813888 := by omega
            have hh2 : headIs 3 (dinRows x) = true := by cases x <;> rfl
            have hlt2 : (k.days.take i).length + 1 ≤ 549755813888 := by rw [List.length_take]; omega
            have htk : dayRows (k.days.take i) ++ [[.sl (dinRows x)]] = dayRows (k.days.take (i + 1)) := by rw [List.take_add_one, hx]; simp [dayRows]
            repeat (first | refine nx ?_ | (refine z10 fun K hK => ?_; simp (maxSteps := 4000000) only [go_sem]; refine hK _ ?_; clear hK K))
            refine z149 [51] (by kernel_rfl) (by kernel_rfl) fun K hK => ?_
            simp (maxSteps := 4000000) only [go_sem, k3, g1, hni, e3, hh2, hlt2, htk, List.nil_append, List.length_nil, Nat.zero_add]
            refine ⟨by kernel_rfl, hK _ ?_⟩
            clear hK K
            repeat (first | refine nx ?_ | (refine z10 fun K hK => ?_; simp (maxSteps := 4000000) only [go_sem, hw]; refine hK _ ?_; clear hK K))
            refine ⟨rfl, i + 1, ?_, hlt, by omega⟩
            refine z13 [] ?_ ?_ rfl rfl <;> simp [lessT, lessM, lessB, AV.less]
            all_goals first | done | rfl | trace_state
          · have he : i = k.days.length := by (have : ¬ i < k.days.length := by simpa using hb); omega
            subst he
            rw [List.take_length]
            repeat (first | refine nx ?_ | (refine z10 fun K hK => ?_; simp (maxSteps := 4000000) only [go_sem]; refine hK _ ?_; clear hK K))
            simp (maxSteps := 4000000) only [go_sem, retG]
end Go.Ab
namespace Go.Ab
open Go.RowKit Go.Proofs
set_option maxHeartbeats 16000000
set_option maxRecDepth 20000
attribute [local irreducible] WalkL Walk
end Go.Ab
namespace Go.Ab
open Go.RowKit Go.Proofs
set_option maxHeartbeats 16000000
set_option maxRecDepth 20000
attribute [local irreducible] WalkL Walk
theorem z837 {F : Batch → Int} : ∀ {l : List Batch}, (∀ b ∈ l, F b = 0) → sB F l = 0
  | [], _ => rfl
  | b :: l, h => by rw [sB, h b (by simp), z837 fun x hx => h x (by simp [hx])]; rfl
theorem z785 {k : Kitchen} (hg : KitGood k) {M : List (List Int)} (hM : shapedB (menuB k) M k.days = true) : mostK k M = k.days.length ↔ ∀ i : Nat, getI (orderK k M) (i : Int) = 0 := by
  obtain ⟨Z, hZ⟩ : ∃ Z, Z = List.replicate k.allerg.length (0 : Int) := ⟨_, rfl⟩
  have hz : ∀ i : Nat, getI Z (i : Int) = 0 := fun i => by rw [hZ, z244]
  have hZl : Z.length = k.allerg.length := by rw [hZ]; simp
  have h1 := z522 hg hM hZl fun i => by rw [hz]; exact Int.le_refl 0
  have hw := z541 hg hZl fun i => by rw [hz]; omega
  have hsz : ∀ g t, sB (fB g t) (k.batches ++ boughtB Z) = sB (fB g t) k.batches := fun g t => by
    rw [z508, z837 (l := boughtB Z) fun b hb => ?_, Int.add_zero]
    obtain ⟨j, _, rfl⟩ := List.mem_map.1 hb
    unfold fB
    split
    · exact hz j
    · rfl
  have a1 : mostK k M ≤ mostK (moreK k Z) M := (z542 (B := k.batches ++ boughtB Z) hg.wide hw hM fun g t => by rw [hsz]; exact Int.le_refl _).1
  have a2 : mostK (moreK k Z) M ≤ mostK k M := (z542 (k := moreK k Z) (B := k.batches) hw hg.wide hM fun g t => by
    change sB (fB g t) (k.batches ++ boughtB Z) ≤ _
    rw [hsz]; exact Int.le_refl _).1
  rw [show mostK k M = mostK (moreK k Z) M by omega, h1]
  constructor
  · intro h i
    have h2 := h i
    have h3 := (z376 hg hM i).1
    rw [hz] at h2
    omega
  · intro h i
    rw [h, hz]
    exact Int.le_refl 0
theorem z1060 (k : Kitchen) (buy : List Int) (hs : KitSmall k) (hb1 : k.batches.length < 2 ^ 20) (hb2 : buy.length < 2 ^ 20) : Fn Try.prog 31 [.agg k.cells, .sl (intRows buy)] (.agg (moreK k buy).cells) := by
  have h11 := z1042 k hs
  rw [Kitchen.cells] at h11 ⊢
  rw [Kitchen.cells]
  obtain ⟨F, hF⟩ : ∃ F : Nat → List (List DV), F = fun i => batRows (k.batches ++ (boughtB buy).take i) := ⟨_, rfl⟩
  have hF0 : F 0 = batRows k.batches := by rw [hF]; simp
  have hFl : ∀ i, i ≤ buy.length → (F i).length ≤ k.batches.length + i := fun i hi => by rw [hF]; simp [z332]; omega
  have hFs : ∀ i, i < buy.length → F i ++ [[.i (i : Int), .i (getI buy (i : Int)), .i 30]] = F (i + 1) := fun i hi => by
    have hx : (boughtB buy)[i]? = some ⟨(i : Int), getI buy (i : Int), 30⟩ := by
      simp [boughtB, hi]
    rw [hF]
    simp only
    rw [List.take_add_one, hx]
    simp [batRows, Batch.row]
  have hFe : F buy.length = batRows (moreK k buy).batches := by
    rw [hF]
    simp only
    rw [List.take_of_length_le (by simp [z391]), moreK]
  have e3 : (moreK k buy).allerg = k.allerg := rfl
  have e4 : (moreK k buy).dishes = k.dishes := rfl
  have e5 : (moreK k buy).days = k.days := rfl
  rw [← hFe, e3, e4, e5]
  rw [← hF0] at h11
  refine z18 27 Try.call31 Try.func31 rfl (by decide) fun J => ?_
  simp (maxSteps := 4000000) only [go_sem, St.start, Try.ntmps31, Try.results31]
  repeat (first | refine nx ?_ | (refine z10 fun K hK => ?_; simp (maxSteps := 4000000) only [go_sem]; refine hK _ ?_; clear hK K))
  refine z10 fun K hK => ?_
  simp (maxSteps := 4000000) only [go_sem, hF0]
  rw [← hF0]
  refine ⟨_, .made (news := [0, 1, 3, 26]) (hf := h11) (hd := rfl) (hn := by decide) (hl := rfl) (hnew := rfl) (hx := rfl), ?_⟩
  simp (maxSteps := 4000000) only [go_sem, List.map_cons, List.map_nil]
  refine hK _ ?_
  clear hK K
  repeat (first | refine nx ?_ | (refine z10 fun K hK => ?_; simp (maxSteps := 4000000) only [go_sem]; refine hK _ ?_; clear hK K))
  refine z64 [7, 8] ?_ ?_
  · simp (maxSteps := 4000000) only [go_sem]
    refine z13 [] ?_ ?_ rfl rfl <;> simp [lessT, lessM, lessB, AV.less]
  simp (maxSteps := 4000000) only [go_sem]
  refine z15 (fun (i : Nat) => [(6, .d (.i (i : Int)))]) (fun i => [(1, some (.arr 47 3 (F i)))]) (fun i => i ≤ buy.length) (fun i => buy.length - i) 0 ?_ (Nat.zero_le _) ?_
  · simp (maxSteps := 4000000) only [go_sem]
    refine z13 [] ?_ ?_ rfl rfl <;> simp [lessT, lessM, lessB, AV.less]
    all_goals first | done | rfl | trace_state
  · intro i hi
    simp (maxSteps := 4000000) only [go_sem]
    repeat (first | refine nx ?_ | (refine z10 fun K hK => ?_; simp (maxSteps := 4000000) only [go_sem]; refine hK _ ?_; clear hK K))
    refine z14 rfl (fun hb => ?_) (fun hb => ?_)
    · have hlt : i < buy.length := by simpa using hb
      have hw : IntKind.i64.wrap ((i : Int) + 1) = ((i + 1 : Nat) : Int) := by rw [z16 (by omega)]; simp
      have g1 := z21 hlt
      have hni : ¬ ((i : Int) < 0) := by omega
      have hl1 := hFl i hi
      have hl2 : (F i).length ≤ 549755813887 := by omega
      have hs1 := hFs i hlt
      repeat (first | refine nx ?_ | (refine z10 fun K hK => ?_; simp (maxSteps := 4000000) only [go_sem]; refine hK _ ?_; clear hK K))
      refine z256 (by kernel_rfl) (by kernel_rfl) fun K hK => ?_
      simp (maxSteps := 4000000) only [go_sem, g1, hni, hl2, hs1]
      refine ⟨by kernel_rfl, hK _ ?_⟩
      clear hK K
      repeat (first | refine nx ?_ | (refine z10 fun K hK => ?_; simp (maxSteps := 4000000) only [go_sem, hw]; refine hK _ ?_; clear hK K))
      refine ⟨rfl, i + 1, ?_, hlt, by omega⟩
      refine z13 [] ?_ ?_ rfl rfl <;> simp [lessT, lessM, lessB, AV.less]
      all_goals first | done | rfl | trace_state
    · have he : i = buy.length := by (have : ¬ i < buy.length := by simpa using hb); omega
      subst he
      repeat (first | refine nx ?_ | (refine z10 fun K hK => ?_; simp (maxSteps := 4000000) only [go_sem]; refine hK _ ?_; clear hK K))
      simp (maxSteps := 4000000) only [go_sem]
end Go.Ab
namespace Go.Ab
open Go.RowKit Go.Proofs
set_option maxHeartbeats 16000000
set_option maxRecDepth 20000
attribute [local irreducible] WalkL Walk
theorem z499 {f : Nat → Int} (h0 : ∀ i, 0 ≤ f i) : ∀ n, sumN f n = 0 ↔ ∀ i, i < n → f i = 0
  | 0 => ⟨fun _ i h => by omega, fun _ => rfl⟩
  | n + 1 => by
    have ih := z499 h0 n
    have h1 := z132 (f := f) n fun i _ => h0 i
    have h2 := h0 n
    rw [sumN]
    constructor
    · intro h i hi
      by_cases e : i = n
      · subst e; omega
      · exact ih.1 (by omega) i (by omega)
    · intro h
      have := ih.2 fun i hi => h i (by omega)
      have := h n (by omega)
      omega
theorem z944 {l : List Int} {i : Nat} (h : l.length ≤ i) : getI l (i : Int) = 0 := by
  rw [z139, List.getD_eq_getElem?_getD, List.getElem?_eq_none h]
  rfl
theorem z500 (k : Kitchen) (hg : KitGood k) (M : List (List Int)) (hM : shapedB (menuB k) M k.days = true) (buy : List Int) (hb : buy.length = k.allerg.length) (h : ∀ i : Nat, 0 ≤ getI buy (i : Int) ∧ getI buy (i : Int) ≤ 9000000) :
    ∃ (W : Int) (β : Bool), (β = true ↔ LeL (orderK k M) buy) ∧ Fn Try.prog 29 [.agg (moreK k buy).cells, .sl (listRows M)] (.tup [.bool β, .i W]) := by
  have h29 := z1104 (moreK k buy) (z541 hg hb h) M hM
  have hi := z522 hg hM hb fun i => (h i).1
  refine ⟨_, _, ?_, h29⟩
  change ((mostK (moreK k buy) M : Int) == (k.days.length : Int)) = true ↔ _
  rw [← hi, beq_iff_eq]
  omega
theorem zf7 (k : Kitchen) (M : List (List Int)) (a b : Int) (hs : KitSmall k) (hM : M.length < 2 ^ 30) (hMr : ∀ r ∈ M, r.length < 2 ^ 30) : Fn Try.prog 7 [.agg k.cells, .sl (listRows M), .agg [.i a, .i b]] (.bool true) := by
  have h22 := z1108 k hs
  have h13 := z1111
  have h12 := z1112 M hM
  cases q1 : readyB k with
  | false =>
    rw [q1] at h22
    rw [Kitchen.cells] at h22 ⊢
    refine z18 154 Try.call7 Try.func7 rfl (by decide) fun J => ?_
    simp (maxSteps := 4000000) only [go_sem, St.start, Try.ntmps7, Try.results7]
    repeat (first | refine z12 rfl ?_ | refine z11 rfl ?_ | refine nx ?_ | (refine z10 fun K hK => ?_; simp (maxSteps := 4000000) only [go_sem]; (repeat (first | (refine ⟨_, .lent (hf := h22) (hd := rfl) (hr := rfl), ?_⟩; simp (maxSteps := 4000000) only [go_sem]) | (refine ⟨_, .lent (hf := h13) (hd := rfl) (hr := rfl), ?_⟩; simp (maxSteps := 4000000) only [go_sem]) | (refine ⟨_, .given (hf := h22) (hd := rfl) (ha := rfl), ?_⟩; simp (maxSteps := 4000000) only [go_sem]) | (refine ⟨_, .given (hf := h13) (hd := rfl) (ha := rfl), ?_⟩; simp (maxSteps := 4000000) only [go_sem]))); refine hK _ ?_; clear hK K))
    simp (maxSteps := 4000000) only [go_sem]
  | true =>
  rw [q1] at h22
  cases q2 : farRows M with
  | true =>
    rw [q2] at h12
    rw [Kitchen.cells] at h22 ⊢
    refine z18 154 Try.call7 Try.func7 rfl (by decide) fun J => ?_
    simp (maxSteps := 4000000) only [go_sem, St.start, Try.ntmps7, Try.results7]
    repeat (first | refine z12 rfl ?_ | refine z11 rfl ?_ | refine nx ?_ | (refine z10 fun K hK => ?_; simp (maxSteps := 4000000) only [go_sem]; (repeat (first | (refine ⟨_, .lent (hf := h22) (hd := rfl) (hr := rfl), ?_⟩; simp (maxSteps := 4000000) only [go_sem]) | (refine ⟨_, .lent (hf := h12) (hd := rfl) (hr := rfl), ?_⟩; simp (maxSteps := 4000000) only [go_sem]) | (refine ⟨_, .lent (hf := h13) (hd := rfl) (hr := rfl), ?_⟩; simp (maxSteps := 4000000) only [go_sem]) | (refine ⟨_, .given (hf := h22) (hd := rfl) (ha := rfl), ?_⟩; simp (maxSteps := 4000000) only [go_sem]) | (refine ⟨_, .given (hf := h12) (hd := rfl) (ha := rfl), ?_⟩; simp (maxSteps := 4000000) only [go_sem]) | (refine ⟨_, .given (hf := h13) (hd := rfl) (ha := rfl), ?_⟩; simp (maxSteps := 4000000) only [go_sem]))); refine hK _ ?_; clear hK K))
    simp (maxSteps := 4000000) only [go_sem]
  | false =>
  rw [q2] at h12
  have hr := q1
  simp only [readyB, Bool.and_eq_true, beq_iff_eq] at hr
  have h0 := hr.2
  have hg : KitGood k := z175 (z162.1 h0)
  have h23 := z1107 k hg M hM hMr
  cases q4 : shapedB (menuB k) M k.days with
  | false =>
    rw [q4] at h23
    rw [Kitchen.cells] at h22 h23 ⊢
    refine z18 154 Try.call7 Try.func7 rfl (by decide) fun J => ?_
    simp (maxSteps := 4000000) only [go_sem, St.start, Try.ntmps7, Try.results7]
    repeat (first | refine z12 rfl ?_ | refine z11 rfl ?_ | refine nx ?_ | (refine z10 fun K hK => ?_; simp (maxSteps := 4000000) only [go_sem]; (repeat (first | (refine ⟨_, .lent (hf := h22) (hd := rfl) (hr := rfl), ?_⟩; simp (maxSteps := 4000000) only [go_sem]) | (refine ⟨_, .lent (hf := h12) (hd := rfl) (hr := rfl), ?_⟩; simp (maxSteps := 4000000) only [go_sem]) | (refine ⟨_, .lent (hf := h23) (hd := rfl) (hr := rfl), ?_⟩; simp (maxSteps := 4000000) only [go_sem]) | (refine ⟨_, .lent (hf := h13) (hd := rfl) (hr := rfl), ?_⟩; simp (maxSteps := 4000000) only [go_sem]) | (refine ⟨_, .given (hf := h22) (hd := rfl) (ha := rfl), ?_⟩; simp (maxSteps := 4000000) only [go_sem]) | (refine ⟨_, .given (hf := h12) (hd := rfl) (ha := rfl), ?_⟩; simp (maxSteps := 4000000) only [go_sem]) | (refine ⟨_, .given (hf := h23) (hd := rfl) (ha := rfl), ?_⟩; simp (maxSteps := 4000000) only [go_sem]) | (refine ⟨_, .given (hf := h13) (hd := rfl) (ha := rfl), ?_⟩; simp (maxSteps := 4000000) only [go_sem]))); refine hK _ ?_; clear hK K))
    simp (maxSteps := 4000000) only [go_sem]
  | true =>
  rw [q4] at h23
  have hop : openK k M = 0 := by rw [openK, if_pos h0, if_pos q4]
  have h17 := z1062 k M hs hM hMr
  have h27 := z1105 k M hs hM hMr
  rw [if_pos hop] at h17 h27
  have hoz := z785 hg q4
  have hom := z376 hg q4
  have hol := z849 hg q4
  have hgd := hg.goods
  have hbt := hg.batches
  have hsm := fun buy => z500 k hg M q4 buy
  obtain ⟨O, hO⟩ : ∃ O, O = orderK k M := ⟨_, rfl⟩
  rw [← hO] at h17 hoz hom hol hsm
  obtain ⟨W1, β1, hβ1, h29a⟩ := hsm O hol hom
  rw [hβ1.2 (LeL.refl O)] at h29a
  have h31a := z1060 k O hs (by omega) (by omega)
  obtain ⟨S, hS⟩ : ∃ S : Nat → Int, S = sumN fun j => getI O (j : Int) := ⟨_, rfl⟩
  have hS0 : S 0 = 0 := by rw [hS]; rfl
  have hSs : ∀ i, S (i + 1) = S i + getI O (i : Int) := fun i => by rw [hS]; rfl
  have hSr : ∀ i, 0 ≤ S i ∧ S i ≤ 9000000 * i := fun i => by rw [hS]; exact ⟨z132 i fun j _ => (hom j).1, z831 i fun j _ => (hom j).2⟩
  have hSz : S O.length = 0 ↔ mostK k M = k.days.length := by
    rw [hS, z499 fun i => (hom i).1, hoz]
    exact ⟨fun h i => if hi : i < O.length then h i hi else z944 (by omega), fun h i _ => h i⟩
  obtain ⟨m1, hm1⟩ : ∃ m, m = mostK k M := ⟨_, rfl⟩
  obtain ⟨m2, hm2⟩ : ∃ m, m = leastK k M := ⟨_, rfl⟩
  rw [← hm1] at h27 hSz
  rw [← hm2] at h27
  have n0 : ((O.length : Int) != (k.allerg.length : Int)) = false := by simp [hol]
  rw [Kitchen.cells] at h22 h23 h17 h27 h31a h29a ⊢
  refine z18 154 Try.call7 Try.func7 rfl (by decide) fun J => ?_
  simp (maxSteps := 4000000) only [go_sem, St.start, Try.ntmps7, Try.results7]
  repeat (first | refine z12 rfl ?_ | refine z11 rfl ?_ | refine nx ?_ | (refine z10 fun K hK => ?_; simp (maxSteps := 4000000) only [go_sem, n0, z19]; (repeat (first | (refine ⟨_, .lent (hf := h22) (hd := rfl) (hr := rfl), ?_⟩; simp (maxSteps := 4000000) only [go_sem, n0, z19]) | (refine ⟨_, .lent (hf := h12) (hd := rfl) (hr := rfl), ?_⟩; simp (maxSteps := 4000000) only [go_sem, n0, z19]) | (refine ⟨_, .lent (hf := h23) (hd := rfl) (hr := rfl), ?_⟩; simp (maxSteps := 4000000) only [go_sem, n0, z19]) | (refine ⟨_, .lent (hf := h17) (hd := rfl) (hr := rfl), ?_⟩; simp (maxSteps := 4000000) only [go_sem, n0, z19]) | (refine ⟨_, .lent (hf := h27) (hd := rfl) (hr := rfl), ?_⟩; simp (maxSteps := 4000000) only [go_sem, n0, z19]) | (refine ⟨_, .given (hf := h22) (hd := rfl) (ha := rfl), ?_⟩; simp (maxSteps := 4000000) only [go_sem, n0, z19]) | (refine ⟨_, .given (hf := h12) (hd := rfl) (ha := rfl), ?_⟩; simp (maxSteps := 4000000) only [go_sem, n0, z19]) | (refine ⟨_, .given (hf := h23) (hd := rfl) (ha := rfl), ?_⟩; simp (maxSteps := 4000000) only [go_sem, n0, z19]) | (refine ⟨_, .given (hf := h17) (hd := rfl) (ha := rfl), ?_⟩; simp (maxSteps := 4000000) only [go_sem, n0, z19]) | (refine ⟨_, .given (hf := h27) (hd := rfl) (ha := rfl), ?_⟩; simp (maxSteps := 4000000) only [go_sem, n0, z19]))); refine hK _ ?_; clear hK K))
  refine z15 (fun (i : Nat) => [(13, .d (.i (i : Int))), (12, .d (.i (S i)))]) (fun _ => []) (fun i => i ≤ O.length) (fun i => O.length - i) 0 ?_ (Nat.zero_le _) ?_
  · rw [hS0]
    simp (maxSteps := 4000000) only [go_sem]
    refine z13 [] ?_ ?_ rfl rfl <;> simp [lessT, lessM, lessB, AV.less]
    all_goals first | done | rfl | trace_state
  · intro i hi
    simp (maxSteps := 4000000) only [go_sem]
    repeat (first | refine nx ?_ | (refine z10 fun K hK => ?_; simp (maxSteps := 4000000) only [go_sem, z19]; refine hK _ ?_; clear hK K))
    refine z14 rfl (fun hb => ?_) (fun hb => ?_)
    · have hlt : i < O.length := by simpa using hb
      have hw : IntKind.i64.wrap ((i : Int) + 1) = ((i + 1 : Nat) : Int) := by rw [z16 (by omega)]; simp
      have g1 := z21 hlt
      have hni : ¬ ((i : Int) < 0) := by omega
      have hoi := hom i
      have d1 : decide (getI O (i : Int) < 0) = false := decide_eq_false (by omega)
      have d2 : decide (getI O (i : Int) > 1073741824) = false := decide_eq_false (by omega)
      have hSi := hSr i
      have w1 : IntKind.i64.wrap (S i + getI O (i : Int)) = S (i + 1) := by rw [hSs]; exact z16 (by omega)
      repeat (first | refine z12 rfl ?_ | refine z11 rfl ?_ | refine nx ?_ | (refine z10 fun K hK => ?_; simp (maxSteps := 4000000) only [go_sem, g1, hni, d1, d2, w1, hw]; refine hK _ ?_; clear hK K))
      refine ⟨rfl, i + 1, ?_, hlt, by omega⟩
      refine z13 [] ?_ ?_ rfl rfl <;> simp [lessT, lessM, lessB, AV.less]
      all_goals first | done | rfl | trace_state
    · have he : i = O.length := by (have : ¬ i < O.length := by simpa using hb); omega
      subst he
      repeat (first | refine nx ?_ | (refine z10 fun K hK => ?_; simp (maxSteps := 4000000) only [go_sem]; refine hK _ ?_; clear hK K))
      refine z10 fun K hK => ?_
      simp (maxSteps := 4000000) only [go_sem]
      refine ⟨_, .given (hf := h31a) (hd := rfl) (ha := rfl), ?_⟩
      simp (maxSteps := 4000000) only [go_sem]
      refine ⟨_, .given (hf := h29a) (hd := rfl) (ha := rfl), ?_⟩
      simp (maxSteps := 4000000) only [go_sem]
      refine hK _ ?_
      clear hK K
      obtain ⟨β, hβ⟩ : ∃ β, β = (S O.length == 0) := ⟨_, rfl⟩
      have e2 : ((m1 : Int) == (k.days.length : Int)) = β := by
        rw [hβ, Bool.eq_iff_iff, beq_iff_eq, beq_iff_eq, hSz]
        omega
      have e3 : (β != β) = false := by cases β <;> rfl
      by_cases c1 : a < 0
      · have d1 : decide (a < 0) = true := decide_eq_true c1
        repeat (first | refine z12 rfl ?_ | refine z11 rfl ?_ | refine nx ?_ | (refine z10 fun K hK => ?_; simp (maxSteps := 4000000) only [go_sem, ← hβ, e2, e3, z80]; refine hK _ ?_; clear hK K))
        refine z17 (by kernel_rfl) (by kernel_rfl) fun K hK => ?_
        simp (maxSteps := 4000000) only [go_sem]
        refine ⟨by kernel_rfl, hK _ ?_⟩
        clear hK K
        repeat (first | refine z12 rfl ?_ | refine z11 rfl ?_ | refine nx ?_ | (refine z10 fun K hK => ?_; simp (maxSteps := 4000000) only [go_sem, d1, z19]; (repeat (first | (refine ⟨_, .lent (hf := h13) (hd := rfl) (hr := rfl), ?_⟩; simp (maxSteps := 4000000) only [go_sem, d1, z19]) | (refine ⟨_, .given (hf := h13) (hd := rfl) (ha := rfl), ?_⟩; simp (maxSteps := 4000000) only [go_sem, d1, z19]))); refine hK _ ?_; clear hK K))
        simp (maxSteps := 4000000) only [go_sem]
      have d1 : decide (a < 0) = false := decide_eq_false c1
      obtain ⟨n, rfl⟩ : ∃ n : Nat, a = (n : Int) := ⟨a.toNat, by omega⟩
      by_cases c2 : (n : Int) ≥ (O.length : Int)
      · have d2 : decide ((n : Int) ≥ (O.length : Int)) = true := decide_eq_true c2
        repeat (first | refine z12 rfl ?_ | refine z11 rfl ?_ | refine nx ?_ | (refine z10 fun K hK => ?_; simp (maxSteps := 4000000) only [go_sem, ← hβ, e2, e3, z80]; refine hK _ ?_; clear hK K))
        refine z17 (by kernel_rfl) (by kernel_rfl) fun K hK => ?_
        simp (maxSteps := 4000000) only [go_sem]
        refine ⟨by kernel_rfl, hK _ ?_⟩
        clear hK K
        repeat (first | refine z12 rfl ?_ | refine z11 rfl ?_ | refine nx ?_ | (refine z10 fun K hK => ?_; simp (maxSteps := 4000000) only [go_sem, d1, d2, z19]; (repeat (first | (refine ⟨_, .lent (hf := h13) (hd := rfl) (hr := rfl), ?_⟩; simp (maxSteps := 4000000) only [go_sem, d1, d2, z19]) | (refine ⟨_, .given (hf := h13) (hd := rfl) (ha := rfl), ?_⟩; simp (maxSteps := 4000000) only [go_sem, d1, d2, z19]))); refine hK _ ?_; clear hK K))
        simp (maxSteps := 4000000) only [go_sem]
      have d2 : decide ((n : Int) ≥ (O.length : Int)) = false := decide_eq_false c2
      by_cases c3 : b < 1
      · have d3 : decide (b < 1) = true := decide_eq_true c3
        repeat (first | refine z12 rfl ?_ | refine z11 rfl ?_ | refine nx ?_ | (refine z10 fun K hK => ?_; simp (maxSteps := 4000000) only [go_sem, ← hβ, e2, e3, z80]; refine hK _ ?_; clear hK K))
        refine z17 (by kernel_rfl) (by kernel_rfl) fun K hK => ?_
        simp (maxSteps := 4000000) only [go_sem]
        refine ⟨by kernel_rfl, hK _ ?_⟩
        clear hK K
        repeat (first | refine z12 rfl ?_ | refine z11 rfl ?_ | refine nx ?_ | (refine z10 fun K hK => ?_; simp (maxSteps := 4000000) only [go_sem, d1, d2, d3, z19]; (repeat (first | (refine ⟨_, .lent (hf := h13) (hd := rfl) (hr := rfl), ?_⟩; simp (maxSteps := 4000000) only [go_sem, d1, d2, d3, z19]) | (refine ⟨_, .given (hf := h13) (hd := rfl) (ha := rfl), ?_⟩; simp (maxSteps := 4000000) only [go_sem, d1, d2, d3, z19]))); refine hK _ ?_; clear hK K))
        simp (maxSteps := 4000000) only [go_sem]
      have d3 : decide (b < 1) = false := decide_eq_false c3
      have hnl : n < O.length := by omega
      have g1 := z21 hnl
      by_cases c4 : b > getI O (n : Int)
      · have d4 : decide (b > getI O (n : Int)) = true := decide_eq_true c4
        repeat (first | refine z12 rfl ?_ | refine z11 rfl ?_ | refine nx ?_ | (refine z10 fun K hK => ?_; simp (maxSteps := 4000000) only [go_sem, ← hβ, e2, e3, z80]; refine hK _ ?_; clear hK K))
        refine z17 (by kernel_rfl) (by kernel_rfl) fun K hK => ?_
        simp (maxSteps := 4000000) only [go_sem]
        refine ⟨by kernel_rfl, hK _ ?_⟩
        clear hK K
        repeat (first | refine z12 rfl ?_ | refine z11 rfl ?_ | refine nx ?_ | (refine z10 fun K hK => ?_; simp (maxSteps := 4000000) only [go_sem, d1, d2, d3, d4, g1, z19]; (repeat (first | (refine ⟨_, .lent (hf := h13) (hd := rfl) (hr := rfl), ?_⟩; simp (maxSteps := 4000000) only [go_sem, d1, d2, d3, d4, g1, z19]) | (refine ⟨_, .given (hf := h13) (hd := rfl) (ha := rfl), ?_⟩; simp (maxSteps := 4000000) only [go_sem, d1, d2, d3, d4, g1, z19]))); refine hK _ ?_; clear hK K))
        simp (maxSteps := 4000000) only [go_sem]
      have d4 : decide (b > getI O (n : Int)) = false := decide_eq_false c4
      have hon := hom n
      obtain ⟨F, hF⟩ : ∃ F, F = O.set n (getI O (n : Int) - b) := ⟨_, rfl⟩
      have hFl : F.length = k.allerg.length := by rw [hF, List.length_set, hol]
      have hFo : ∀ i : Nat, 0 ≤ getI F (i : Int) ∧ getI F (i : Int) ≤ 9000000 := fun i => by
        rw [hF]
        by_cases e : n = i
        · subst e
          rw [z65 hnl]
          omega
        · rw [z105 e]
          exact hom i
      have hno : ¬ LeL O F := fun h => by
        have := h n
        rw [hF, z65 hnl] at this
        omega
      obtain ⟨W2, β2, hβ2, h29b⟩ := hsm F hFl hFo
      rw [Bool.eq_false_iff.2 fun h => hno (hβ2.1 h)] at h29b
      have h31b := z1060 k F hs (by omega) (by omega)
      have w1 : IntKind.i64.wrap (getI O (n : Int) - b) = getI O (n : Int) - b := z16 (by omega)
      have su : (intRows O).set n [.i (getI O (n : Int) - b)] = intRows F := by rw [hF]; exact z49 O n _
      have hnn : ¬ ((n : Int) < 0) := by omega
      have e5 : O.length ≤ 549755813888 := by omega
      have hh2 : headIs 1 (intRows O) = true := by cases O <;> rfl
      rw [Kitchen.cells] at h31b h29b
      repeat (first | refine z12 rfl ?_ | refine z11 rfl ?_ | refine nx ?_ | (refine z10 fun K hK => ?_; simp (maxSteps := 4000000) only [go_sem, ← hβ, e2, e3, z80]; refine hK _ ?_; clear hK K))
      refine z17 (by kernel_rfl) (by kernel_rfl) fun K hK => ?_
      simp (maxSteps := 4000000) only [go_sem]
      refine ⟨by kernel_rfl, hK _ ?_⟩
      clear hK K
      repeat (first | refine z12 rfl ?_ | refine z11 rfl ?_ | refine nx ?_ | (refine z10 fun K hK => ?_; simp (maxSteps := 4000000) only [go_sem, d1, d2, d3, d4, g1, z19, e5, hh2, hnn, hnl, w1, su, List.nil_append, List.length_nil, Nat.zero_add]; refine hK _ ?_; clear hK K))
      refine z10 fun K hK => ?_
      simp (maxSteps := 4000000) only [go_sem]
      refine ⟨_, .given (hf := h31b) (hd := rfl) (ha := rfl), ?_⟩
      simp (maxSteps := 4000000) only [go_sem]
      refine ⟨_, .given (hf := h29b) (hd := rfl) (ha := rfl), ?_⟩
      simp (maxSteps := 4000000) only [go_sem]
      refine hK _ ?_
      clear hK K
      repeat (first | refine z12 rfl ?_ | refine z11 rfl ?_ | refine nx ?_ | (refine z10 fun K hK => ?_; simp (maxSteps := 4000000) only [go_sem]; (repeat (first | (refine ⟨_, .lent (hf := h13) (hd := rfl) (hr := rfl), ?_⟩; simp (maxSteps := 4000000) only [go_sem]) | (refine ⟨_, .given (hf := h13) (hd := rfl) (ha := rfl), ?_⟩; simp (maxSteps := 4000000) only [go_sem]))); refine hK _ ?_; clear hK K))
      simp (maxSteps := 4000000) only [go_sem]
end Go.Ab
