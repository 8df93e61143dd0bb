/- A walk engine over abstract states, and the contracts of the functions that the statement reaches: part 2. -/
import Derived.Test.YtldnaopmkgikkaaWa
import Derived.RangeFuncRecord
import Derived.RangeFuncSeq
import Derived.Test.YtldnaopmkgikkaaProg
set_option linter.unusedVariables false
set_option linter.unusedSimpArgs false
/- Regions whose order is open: whatever order is drawn, the end is that of the text's order. -/
namespace Go.Ab
open Go.RowKit

theorem reach_nil {m : List (Option Blk)} {x : AV} (h : x.refs = []) (f : Nat) : reach m f x = [] := by
  cases f <;> simp [reach, h]

theorem refsAll_nil {xs : List AV} (h : AV.refsAll xs = []) {x : AV} (hx : x ∈ xs) : x.refs = [] := by
  obtain ⟨i, hi⟩ := List.mem_iff_getElem?.1 hx
  refine List.eq_nil_iff_forall_not_mem.2 fun n hn => ?_
  have := refsAll_mem hi n hn
  rw [h] at this
  cases this

theorem refsAll_mem' {xs : List AV} {n : Nat} (h : n ∈ AV.refsAll xs) : ∃ x ∈ xs, n ∈ x.refs := by
  induction xs with
  | nil => simp [AV.refsAll] at h
  | cons x xs ih =>
    simp only [AV.refsAll, List.mem_append] at h
    rcases h with h | h
    · exact ⟨x, by simp, h⟩
    · obtain ⟨y, hy, hn⟩ := ih h
      exact ⟨y, by simp [hy], hn⟩

theorem fresh_agree {s s' : St} {d : Nat} (h : s.m[d]? = s'.m[d]?) : s.fresh d = s'.fresh d := by
  unfold St.fresh
  rw [h]

/-- The effect of an operation that leans on some names alone. -/
def LocalE (P : Program) (o : Oper) (s : St) (e : Eff) (N : List Nat) : Prop :=
  EffR P o s e ∧ ∀ s' : St, (∀ x ∈ o.op.operands, s.ev x = s'.ev x) → Agree N s.m s'.m → EffR P o s' e

section
variable {P : Program} {o : Oper} {s : St}

theorem LocalE.val {x : AV} (hc : isCall o = false) (hn : ∀ t a y, o.op ≠ .store t a y) (h : valOp P o.op s = some x) : LocalE P o s ⟨x, none⟩ (footV o.op s) :=
  ⟨.val x hc h hn, fun s' he ha => .val x hc (by rw [← valOp_local he ha]; exact h) hn⟩

theorem rowOf_local {s s' : St} {x : AV} (hx : x.refs = []) : rowOf s x = rowOf s' x := by
  unfold rowOf
  split
  · rename_i cs hcs
    congr 1
    refine List.map_congr_left fun y hy => reify_local deep y ?_
    rw [reach_nil]
    · exact fun n hn => by cases hn
    · refine List.eq_nil_iff_forall_not_mem.2 fun n hn => ?_
      have := cells_refs hcs hy n hn
      rw [hx] at this
      cases this
  · rfl

theorem rowsOf_local {s s' : St} {z : Nat} : ∀ {xs : List AV}, AV.refsAll xs = [] → rowsOf s z xs = rowsOf s' z xs
  | [], _ => rfl
  | x :: xs, h => by
    simp only [AV.refsAll, List.append_eq_nil_iff] at h
    simp only [rowsOf, rowOf_local (s := s) (s' := s') h.1, rowsOf_local (s := s) (s' := s') h.2]

theorem LocalE.new {d : Tmp} {b : Blk} (hd : o.dst = some d) (h : newOp P o.op s = some b) (hf : s.fresh d = true) : LocalE P o s ⟨nameOf d b, some (d, b)⟩ [d] := by
  refine ⟨.new d b hd h hf, fun s' he ha => .new d b hd ?_ ?_⟩
  · unfold newOp at h ⊢
    split at h
    · exact h
    · rename_i e x ho
      rw [← he x (by rw [ho]; simp [Op.operands])]; exact h
    · rename_i t l c ho
      rw [← he l (by rw [ho]; simp [Op.operands]), ← he c (by rw [ho]; simp [Op.operands])]
      have : opMakeSlice P s' t (s.ev l) (s.ev c) = opMakeSlice P s t (s.ev l) (s.ev c) := by
        unfold opMakeSlice
        simp only [rowOf_local (s := s') (s' := s) (constOf_refs _)]
      rw [this]; exact h
    · cases h
  · rw [← fresh_agree (ha d (by simp))]; exact hf

theorem LocalE.lit {d : Tmp} {e z : Nat} {rows : List (List DV)} {t : TypeId} {len : Nat} {parts : Array (Nat × Operand)} (ho : o.op = .buildSlice t len parts) (hd : o.dst = some d) (hf : s.fresh d = true)
    (h : opBuildSlice P s t len (parts.toList.map fun p => (p.1, s.ev p.2)) = some (.arr e z rows)) (hr : AV.refsAll (parts.toList.map fun p => s.ev p.2) = []) :
    LocalE P o s ⟨.own d, some (d, .arr e z rows)⟩ [d] := by
  refine ⟨.lit d e z rows t len parts ho hd hf h hr, fun s' he ha => ?_⟩
  have hev : ∀ p ∈ parts.toList, s.ev p.2 = s'.ev p.2 := fun p hp => he p.2 (by rw [ho]; simp only [Op.operands, List.mem_toArray, List.mem_map]; exact ⟨p, hp, rfl⟩)
  have e1 : (parts.toList.map fun p => (p.1, s'.ev p.2)) = parts.toList.map fun p => (p.1, s.ev p.2) := List.map_congr_left fun p hp => by rw [hev p hp]
  have e2 : (parts.toList.map fun p => s'.ev p.2) = parts.toList.map fun p => s.ev p.2 := List.map_congr_left fun p hp => by rw [hev p hp]
  have hps : (parts.toList.map fun p => (p.1, s.ev p.2)).map (·.2) = parts.toList.map fun p => s.ev p.2 := by simp [Function.comp_def]
  refine .lit d e z rows t len parts ho hd (by rw [← fresh_agree (ha d (by simp))]; exact hf) ?_ (by rw [e2]; exact hr)
  rw [e1, ← h]
  unfold opBuildSlice
  rw [hps, hr]
  simp only [rowsOf_local (s := s') (s' := s) hr, St.arrs]

theorem LocalE.store {t : TypeId} {a x : Operand} {n off : Nat} {row row' cs : List AV} (ho : o.op = .store t a x) (hd : o.dst = none) (ha : s.ev a = .box n off) (hn : s.m[n]? = some (some (.box row)))
    (hx : (s.ev x).cells = some cs) (hl : tsz P t = some cs.length) (hs : splice row off cs = some row') : LocalE P o s ⟨.void, some (n, .box row')⟩ [n] := by
  refine ⟨.store t a x n off row row' cs ho hd ha hn hx hl hs, fun s' he hag => ?_⟩
  exact .store t a x n off row row' cs ho hd (by rw [← he a (by rw [ho]; simp [Op.operands])]; exact ha) (by rw [← hag n (by simp)]; exact hn) (by rw [← he x (by rw [ho]; simp [Op.operands])]; exact hx) hl hs

theorem LocalE.copy {t t' : TypeId} {x y : Operand} {c n : Nat} {b : Blk} (ho : o.op = .call { callee := .builtin .copy, args := #[x, y], argTypes := #[t, t'] }) (h : opCopy P s t (s.ev x) (s.ev y) = some (c, n, b)) :
    LocalE P o s ⟨.d (.int .i64 c), some (n, b)⟩ ((s.ev x).refs ++ (s.ev y).refs) := by
  refine ⟨.copy t t' x y c n b ho h, fun s' he hag => .copy t t' x y c n b ho ?_⟩
  rw [← he x (by rw [ho]; simp [Op.operands, Call.operands]), ← he y (by rw [ho]; simp [Op.operands, Call.operands]), ← opCopy_local (hag.mono fun n hn => by simp [hn]) (hag.mono fun n hn => by simp [hn])]
  exact h

theorem LocalE.storeE {t : TypeId} {a x : Operand} {n i off e z : Nat} {rows : List (List DV)} {r r' ds : List DV} {cs : List AV} (ho : o.op = .store t a x) (hd : o.dst = none) (ha : s.ev a = .elem n i off) (hn : s.m[n]? = some (some (.arr e z rows)))
    (hx : (s.ev x).cells = some cs) (hl : tsz P t = some cs.length) (hi : rows[i]? = some r) (hds : allSome (cs.map (reify s.m deep)) = some ds) (hs : splice r off ds = some r') (hr : (s.ev x).refs = []) :
    LocalE P o s ⟨.void, some (n, .arr e z (rows.set i r'))⟩ [n] := by
  refine ⟨.storeE t a x n i off e z rows r r' ds cs ho hd ha hn hx hl hi hds hs hr, fun s' he hag => ?_⟩
  have hex := he x (by rw [ho]; simp [Op.operands])
  have hrow : rowOf s (s.ev x) = rowOf s' (s.ev x) := rowOf_local hr
  refine .storeE t a x n i off e z rows r r' ds cs ho hd (by rw [← he a (by rw [ho]; simp [Op.operands])]; exact ha) (by rw [← hag n (by simp)]; exact hn) (by rw [← hex]; exact hx) hl hi ?_ hs (by rw [← hex]; exact hr)
  unfold rowOf at hrow
  rw [hx] at hrow
  exact (show allSome (cs.map (reify s.m deep)) = allSome (cs.map (reify s'.m deep)) from hrow) ▸ hds

theorem calleeOf_local {s' : St} {f : Operand} {args : List Operand} (hf : s.ev f = s'.ev f) (ha : ∀ x ∈ args, s.ev x = s'.ev x) : calleeOf s f args = calleeOf s' f args := by
  unfold calleeOf
  rw [hf, List.map_congr_left ha]

theorem callOf_local {s' : St} (he : ∀ x ∈ o.op.operands, s.ev x = s'.ev x) : callOf o s = callOf o s' := by
  unfold callOf
  split
  · rename_i f args ts ho
    exact calleeOf_local (he f (by rw [ho]; simp [Op.operands, Call.operands])) (fun x hx => he x (by rw [ho]; simp [Op.operands, Call.operands]; exact .inr (by simpa using hx)))
  · rfl

theorem reifyAll_local {s' : St} {xs : List AV} (h : Agree (reachAll s xs) s.m s'.m) : reifyAll s xs = reifyAll s' xs := by
  unfold reifyAll
  congr 1
  refine List.map_congr_left fun x hx => reify_local deep x (h.mono fun n hn => ?_)
  simp only [reachAll, List.mem_flatMap]
  exact ⟨x, hx, hn⟩

theorem LocalE.call {g : FuncId} {xs : List AV} {e : Eff} (hc : callOf o s = some (g, xs)) (h : CallE P s o.dst g xs e) : LocalE P o s e (reachAll s xs ++ o.dst.toList) := by
  refine ⟨.call g xs e hc h, fun s' he ha => ?_⟩
  have hra := reifyAll_local (s' := s') (xs := xs) (ha.mono fun n hn => by simp [hn])
  refine .call g xs e (by rw [← callOf_local he]; exact hc) ?_
  cases h with
  | fn ds r hd hf hr => exact .fn ds r (by rw [← hra]; exact hd) hf hr
  | fnS ds e z rows d hdst hd hf hr hfr => exact .fnS ds e z rows d hdst (by rw [← hra]; exact hd) hf hr (by rw [← fresh_agree (ha d (by simp [hdst]))]; exact hfr)
  | inPlace n b0 b0' b1 args r hf hn hb hla hag hx =>
    have hnm : n ∈ reachAll s xs ++ o.dst.toList := by
      rw [List.mem_append]
      left
      obtain ⟨x, hxm, hxn⟩ := refsAll_mem' hx
      simp only [reachAll, List.mem_flatMap]
      exact ⟨x, hxm, by simp [reach, deep, hxn]⟩
    refine .inPlace n b0 b0' b1 args r hf (by rw [← ha n hnm]; exact hn) hb hla (fun i x y hi hy => ?_) hx
    rcases hag i x y hi hy with ⟨d, rfl, hr, hn'⟩ | rfl
    · refine .inl ⟨d, rfl, ?_, hn'⟩
      have hx0 : x.refs = [] := List.eq_nil_iff_forall_not_mem.2 fun k hk => by have := hn' k hk; simp at this
      rw [← hr]
      exact (reify_local deep x (by rw [reach_nil hx0]; exact fun n hn => by cases hn)).symm
    · exact .inr rfl

end

/-! ### With the guard -/

def guardT (ops : Array Oper) (o : Oper) : Option (Option (Tmp × Bool)) := match o.guard with
  | none => some none
  | some (j, want) => ((ops[j]?).bind (·.dst)).map fun t => some (t, want)

/-- An operation's effect, its guard heeded: skipped, it gives nothing. -/
def EffG (P : Program) (ops : Array Oper) (o : Oper) (s : St) (e : Eff) : Prop := match guardT ops o with
  | none => False
  | some none => EffR P o s e
  | some (some (t, want)) => (s.ev (.tmp t) = .d (.bool want) ∧ EffR P o s e) ∨ ((s.ev (.tmp t) = .d (.bool (!want)) ∨ s.ev (.tmp t) = .void) ∧ e = ⟨.void, none⟩)

def LocalG (P : Program) (ops : Array Oper) (o : Oper) (s : St) (e : Eff) (N : List Nat) : Prop :=
  EffG P ops o s e ∧ ∀ s' : St, (∀ t ∈ o.looksAt ops, s.ev (.tmp t) = s'.ev (.tmp t)) → Agree N s.m s'.m → EffG P ops o s' e

section
variable {P : Program} {ops : Array Oper} {o : Oper} {s : St} {e : Eff} {N : List Nat}

theorem ev_looks {s' : St} (h : ∀ t ∈ o.looksAt ops, s.ev (.tmp t) = s'.ev (.tmp t)) : ∀ x ∈ o.op.operands, s.ev x = s'.ev x := by
  intro x hx
  cases x with
  | tmp t => exact h t (List.mem_append_left _ (List.mem_filterMap.2 ⟨.tmp t, by simpa using hx, rfl⟩))
  | const v => rfl
  | global g => rfl
  | func f => rfl

theorem LocalG.plain (hg : o.guard = none) (h : LocalE P o s e N) : LocalG P ops o s e N := by
  have : guardT ops o = some none := by simp [guardT, hg]
  exact ⟨by simp only [EffG, this]; exact h.1, fun s' he ha => by simp only [EffG, this]; exact h.2 s' (ev_looks he) ha⟩

theorem LocalG.taken {j : Nat} {want : Bool} {t : Tmp} (hg : o.guard = some (j, want)) (ht : (ops[j]?).bind (·.dst) = some t) (hv : s.ev (.tmp t) = .d (.bool want)) (h : LocalE P o s e N) : LocalG P ops o s e N := by
  have : guardT ops o = some (some (t, want)) := by simp [guardT, hg, ht]
  have hmem : t ∈ o.looksAt ops := List.mem_append_right _ (by rw [hg]; simp [ht])
  exact ⟨by simp only [EffG, this]; exact .inl ⟨hv, h.1⟩, fun s' he ha => by simp only [EffG, this]; exact .inl ⟨by rw [← he t hmem]; exact hv, h.2 s' (ev_looks he) ha⟩⟩

theorem LocalG.skipped {j : Nat} {want : Bool} {t : Tmp} (hg : o.guard = some (j, want)) (ht : (ops[j]?).bind (·.dst) = some t) (hv : s.ev (.tmp t) = .d (.bool (!want)) ∨ s.ev (.tmp t) = .void) :
    LocalG P ops o s ⟨.void, none⟩ [] := by
  have : guardT ops o = some (some (t, want)) := by simp [guardT, hg, ht]
  have hmem : t ∈ o.looksAt ops := List.mem_append_right _ (by rw [hg]; simp [ht])
  exact ⟨by unfold EffG; rw [this]; exact .inr ⟨hv, rfl⟩, fun s' he ha => by unfold EffG; rw [this]; exact .inr ⟨by rw [← he t hmem]; exact hv, rfl⟩⟩

theorem EffG.step (h : EffG P ops o s e) : StepG P ops o s (s.apply o.dst e) := by
  unfold EffG at h
  unfold StepG
  unfold guardT at h
  cases hg : o.guard with
  | none => rw [hg] at h; exact h.step
  | some gw =>
    obtain ⟨j, want⟩ := gw
    rw [hg] at h
    simp only at h ⊢
    cases ht : (ops[j]?).bind (·.dst) with
    | none => rw [ht] at h; exact h.elim
    | some t =>
      rw [ht] at h
      refine ⟨t, rfl, ?_⟩
      rcases h with ⟨h1, h2⟩ | ⟨h1, rfl⟩
      · exact .inl ⟨h1, h2.step⟩
      · exact .inr ⟨h1, by cases o.dst <;> rfl⟩

/-- The memory that an effect makes or writes is told by one name. -/
def Eff.name (e : Eff) : List Nat := match e.m with
  | some (n, _) => [n]
  | none => []

theorem apply_ev {dst : Option Tmp} {t : Tmp} (h : dst ≠ some t) : (s.apply dst e).ev (.tmp t) = s.ev (.tmp t) := by
  cases dst with
  | none => rfl
  | some d =>
    have hne : d ≠ t := fun e => h (by rw [e])
    simp only [St.ev, St.apply, St.put, List.getD, List.getElem?_set_ne hne]

theorem apply_m {dst : Option Tmp} {n : Nat} (h : n ∉ e.name) : (s.apply dst e).m[n]? = s.m[n]? := by
  obtain ⟨v, m⟩ := e
  cases m with
  | none => rfl
  | some nb =>
    obtain ⟨k, b⟩ := nb
    simp only [Eff.name, List.mem_singleton] at h
    simp only [St.apply]
    rw [List.getElem?_set_ne (Ne.symm h)]

/-- Two effects that have nothing to do with each other. -/
theorem apply_comm {d d' : Option Tmp} {e e' : Eff} (hd : ∀ t, d = some t → d' ≠ some t) (hn : ∀ n ∈ e.name, n ∉ e'.name) : (s.apply d e).apply d' e' = (s.apply d' e').apply d e := by
  obtain ⟨v, m⟩ := e
  obtain ⟨v', m'⟩ := e'
  have ht : ((s.apply d ⟨v, m⟩).put d' v').t = ((s.apply d' ⟨v', m'⟩).put d v).t := by
    cases d with
    | none => cases d' <;> rfl
    | some a =>
      cases d' with
      | none => rfl
      | some b =>
        have hne : a ≠ b := fun e => hd a rfl (by rw [e])
        simp only [St.apply, St.put]
        exact List.set_comm _ _ hne
  have hm : ((s.apply d ⟨v, m⟩).apply d' ⟨v', m'⟩).m = ((s.apply d' ⟨v', m'⟩).apply d ⟨v, m⟩).m := by
    cases m with
    | none => cases m' <;> rfl
    | some nb =>
      cases m' with
      | none => rfl
      | some nb' =>
        obtain ⟨n, b⟩ := nb
        obtain ⟨n', b'⟩ := nb'
        have hne : n ≠ n' := fun e => hn n (by simp [Eff.name]) (by simp [Eff.name, e])
        simp only [St.apply]
        exact List.set_comm _ _ hne
  have : ∀ (a b : St), a.t = b.t → a.m = b.m → a = b := by rintro ⟨_, _⟩ ⟨_, _⟩ rfl rfl; rfl
  exact this _ _ ht hm

end
end Go.Ab
/- Regions, in the text's order and in every order that may be drawn: soundness. -/
namespace Go.Ab
open Go.RowKit

/-- One operation of a region that was carried out: which, its effect, the names that it leans on. -/
structure Rec where
  i : Nat
  e : Eff
  N : List Nat

inductive Chain (P : Program) (ops : Array Oper) : List Rec → St → St → Prop where
  | nil (s : St) : Chain P ops [] s s
  | cons {r : Rec} {rs : List Rec} {s s' : St} {o : Oper} (ho : ops[r.i]? = some o) (hd : dstOk o = true) (h : LocalG P ops o s r.e r.N) (ht : Chain P ops rs (s.apply o.dst r.e) s') : Chain P ops (r :: rs) s s'

/-- What of a record decides whether two operations may change places. -/
abbrev Rec.key (r : Rec) : Nat × List Nat × List Nat := (r.i, r.e.name, r.N)

def indepB (ops : Array Oper) (a b : Nat × List Nat × List Nat) : Bool := match ops[a.1]?, ops[b.1]? with
  | some x, some y => x.apart ops y && a.2.1.all (fun n => !(b.2.2.contains n || b.2.1.contains n)) && b.2.1.all (fun n => !(a.2.2.contains n || a.2.1.contains n))
  | _, _ => false

inductive Anc (ops : Array Oper) : Nat → Nat → Prop where
  | edge {j : Nat} {o : Oper} {e : Edge} (ho : ops[j]? = some o) (he : e ∈ o.after) (hb : Region.binds .any e = true) : Anc ops e.on j
  | step {i k j : Nat} (h : Anc ops i k) (h' : Anc ops k j) : Anc ops i j

def maskOf (acc : List Nat) (es : List Edge) : Nat := match es with
  | [] => 0
  | e :: es => if Region.binds .any e then (2 ^ e.on ||| acc.getD e.on 0) ||| maskOf acc es else maskOf acc es

def masks : List Oper → List Nat → List Nat
  | [], acc => acc
  | o :: os, acc => masks os (acc ++ [maskOf acc o.after.toList])

def pairsB (ops : Array Oper) (ms : List Nat) : List (Nat × List Nat × List Nat) → Bool
  | [] => true
  | a :: l => l.all (fun b => (ms.getD b.1 0).testBit a.1 || indepB ops a b) && pairsB ops ms l

/-- Each edge leads back. -/
def backB (ops : Array Oper) : Bool := ops.toList.zipIdx.all fun x => x.1.after.toList.all fun e => !Region.binds .any e || decide (e.on < x.2)

section
variable {P : Program} {ops : Array Oper}

theorem maskOf_spec {acc : List Nat} {j : Nat} {o : Oper} (ho : ops[j]? = some o) (hacc : ∀ k i, (acc.getD k 0).testBit i = true → Anc ops i k) :
    ∀ (es : List Edge), (∀ e ∈ es, e ∈ o.after) → ∀ i, (maskOf acc es).testBit i = true → Anc ops i j
  | [], _, i, h => by simp [maskOf] at h
  | e :: es, hes, i, h => by
    simp only [maskOf] at h
    split at h
    · rename_i hb
      simp only [Nat.testBit_or, Bool.or_eq_true, Nat.testBit_two_pow, decide_eq_true_eq] at h
      rcases h with (h | h) | h
      · subst h; exact .edge ho (hes e (by simp)) hb
      · exact .step (hacc _ _ h) (.edge ho (hes e (by simp)) hb)
      · exact maskOf_spec ho hacc es (fun e he => hes e (by simp [he])) i h
    · exact maskOf_spec ho hacc es (fun e he => hes e (by simp [he])) i h

theorem masks_spec : ∀ (os : List Oper) (acc : List Nat), (∀ k i, (acc.getD k 0).testBit i = true → Anc ops i k) → (∀ k o, os[k]? = some o → ops[acc.length + k]? = some o) →
    ∀ k i, ((masks os acc).getD k 0).testBit i = true → Anc ops i k
  | [], acc, h, _ => h
  | o :: os, acc, h, hos => by
    refine masks_spec os _ (fun k i hk => ?_) (fun k o' hk => ?_)
    · simp only [List.getD, List.getElem?_append] at hk
      split at hk
      · exact h k i (by simpa [List.getD] using hk)
      · rename_i hlt
        cases hkk : k - acc.length with
        | zero =>
          rw [hkk] at hk
          simp at hk
          have : k = acc.length := by omega
          subst this
          exact maskOf_spec (by simpa using hos 0 o (by simp)) h _ (fun e he => by simpa using he) i hk
        | succ q => rw [hkk] at hk; simp at hk
    · have := hos (k + 1) o' (by simpa using hk)
      simp only [List.length_append, List.length_singleton]
      rw [show acc.length + 1 + k = acc.length + (k + 1) by omega]
      exact this

/-- Two neighbours change places. -/
theorem swap {a b : Rec} {s s' : St} {rs : List Rec} (hi : indepB ops a.key b.key = true) (h : Chain P ops (a :: b :: rs) s s') : Chain P ops (b :: a :: rs) s s' := by
  cases h with
  | cons ho hd h ht =>
  rename_i x
  cases ht with
  | cons ho' hd' h' ht =>
  rename_i y
  simp only [indepB, ho, ho', Bool.and_eq_true, List.all_eq_true, Bool.not_eq_true', Bool.or_eq_false_iff, List.contains_eq_mem, decide_eq_false_iff_not] at hi
  obtain ⟨⟨h1, h2⟩, h3⟩ := hi
  obtain ⟨a1, a2, a3⟩ := Oper.apart_spec h1
  -- b first
  have hev1 : ∀ t ∈ y.looksAt ops, (s.apply x.dst a.e).ev (.tmp t) = s.ev (.tmp t) := fun t ht => apply_ev (fun hd => a1 t hd ht)
  have hm1 : Agree b.N (s.apply x.dst a.e).m s.m := fun n hn => apply_m (fun hc => (h2 n hc).1 hn)
  have hb : LocalG P ops y s b.e b.N := ⟨h'.2 s hev1 hm1, fun s2 he2 ha2 => h'.2 s2 (fun t ht => (hev1 t ht).trans (he2 t ht)) (fun n hn => (hm1 n hn).trans (ha2 n hn))⟩
  -- then a
  have hev2 : ∀ t ∈ x.looksAt ops, s.ev (.tmp t) = (s.apply y.dst b.e).ev (.tmp t) := fun t ht => (apply_ev (fun hd => a3 t hd ht)).symm
  have hm2 : Agree a.N s.m (s.apply y.dst b.e).m := fun n hn => (apply_m (fun hc => (h3 n hc).1 hn)).symm
  have ha : LocalG P ops x (s.apply y.dst b.e) a.e a.N := ⟨h.2 _ hev2 hm2, fun s2 he2 ha2 => h.2 s2 (fun t ht => (hev2 t ht).trans (he2 t ht)) (fun n hn => (hm2 n hn).trans (ha2 n hn))⟩
  refine .cons ho' hd' hb (.cons ho hd ha ?_)
  rw [← apply_comm (fun t hd hd2 => a2 t hd hd2) (fun n hn => (h2 n hn).2)]
  exact ht

/-- One that may come first is brought to the front. -/
theorem bubble {r : Rec} {B : List Rec} {s' : St} : ∀ (A : List Rec) (s : St), (∀ a ∈ A, indepB ops a.key r.key = true) → Chain P ops (A ++ r :: B) s s' → Chain P ops (r :: (A ++ B)) s s'
  | [], _, _, h => h
  | a :: A, s, hi, h => by
    cases h with
    | cons ho hd h ht =>
    have := bubble A _ (fun b hb => hi b (by simp [hb])) ht
    exact swap (hi a (by simp)) (.cons ho hd h this)

end

section
variable {P : Program} {base : Own} {out : Own} {st st' : St} {μ : Pl} {tmps : Array Value} {w : World} {o : Oper} {rd : Option Nat} {n : Nat} {ops : Array Oper} {Q : Exit → Act → World → Prop}

theorem tmp_val (h : StRel base out st μ tmps w) {t : Tmp} {x : AV} (hx : st.ev (.tmp t) = x) (hne : x ≠ .undef) : ∃ v, tmps[t]? = some v ∧ AVRel w (ownOf out μ) μ x v := by
  have ht : t < st.t.length := by
    rcases Nat.lt_or_ge t st.t.length with h1 | h1
    · exact h1
    · exfalso
      apply hne
      rw [← hx]
      simp [St.ev, List.getD, List.getElem?_eq_none h1]
  have ht' : t < tmps.size := by rw [h.size]; exact ht
  refine ⟨tmps[t], by simp [ht'], h.tmp t x tmps[t] ?_ (by simp [ht'])⟩
  rw [← hx]
  simp [St.ev, List.getD, ht]

/-- The slots that operations write. -/
def opDsts : List Oper → List Nat
  | [] => []
  | o :: os => match o.dst with
    | some d => d :: opDsts os
    | none => opDsts os

/-- Temporaries that are the same but in some slots. -/
def Same (ds : List Nat) (t t' : Array Value) : Prop := t'.size = t.size ∧ ∀ i : Nat, i ∉ ds → t'[i]? = t[i]?

theorem Same.refl (ds : List Nat) (t : Array Value) : Same ds t t := ⟨rfl, fun _ _ => rfl⟩
theorem Same.trans {ds : List Nat} {a b c : Array Value} (h : Same ds a b) (h' : Same ds b c) : Same ds a c := ⟨h'.1.trans h.1, fun i hi => (h'.2 i hi).trans (h.2 i hi)⟩
theorem Same.mono {ds ds' : List Nat} {a b : Array Value} (h : Same ds a b) (hs : ∀ i, i ∈ ds → i ∈ ds') : Same ds' a b := ⟨h.1, fun i hi => h.2 i fun hc => hi (hs i hc)⟩
theorem Same.cons {o : Oper} {os : List Oper} {a b c : Array Value} (h : Same o.dst.toList a b) (h' : Same (opDsts os) b c) : Same (opDsts (o :: os)) a c :=
  Same.trans (h.mono fun i hi => by unfold opDsts; cases ho : o.dst <;> simp_all) (h'.mono fun i hi => by unfold opDsts; cases o.dst <;> simp [hi])
theorem Same.within {ds ds' : List Nat} {a b c : Array Value} (h : Same ds a b) (h' : Same ds' b c) (hs : ∀ i, i ∈ ds → i ∈ ds') : Same ds' a c := (h.mono hs).trans h'
theorem opDsts_mem {o : Oper} : ∀ {os : List Oper}, o ∈ os → ∀ i, i ∈ o.dst.toList → i ∈ opDsts os
  | [], h, _, _ => by cases h
  | p :: os, h, i, hi => by
    unfold opDsts
    rcases List.mem_cons.1 h with rfl | h
    · cases ho : o.dst <;> simp_all
    · have := opDsts_mem h i hi
      cases p.dst <;> simp [this]
theorem same_put (t : Array Value) (dst : Option Tmp) (v : Value) : Same dst.toList t (putT t dst v) := ⟨by cases dst <;> simp [putT], fun i hi => by
  cases dst with
  | none => rfl
  | some d =>
    have : d ≠ i := fun e => hi (by simp [e])
    simp [putT, this]⟩

theorem stepG_wpIn (h : StRel base out st μ tmps w) {i : Nat} (ho : ops[i]? = some o) (hdst : dstOk o = true) (hs : StepG P ops o st st') {ds : List Deferred} {K : Act → World → Prop}
    (hK : ∀ tmps' μ' w', StRel base out st' μ' tmps' w' → KeepO base (ownOf out μ) w (ownOf out μ') w' → Same (o.dst.toList) tmps tmps' → K { tmps := tmps', defers := ds } w') :
    wpOpIn (fence rd) n P ops Q i K { tmps := tmps, defers := ds } w := by
  unfold wpOpIn
  simp only [ho]
  unfold StepG at hs
  cases hg : o.guard with
  | none =>
    rw [hg] at hs
    have : Region.wanted o (yielded ops tmps) = true := by simp [Region.wanted, hg]
    simp only [this, if_true]
    exact stepR_wpIn h hdst hs (fun v μ' w' h1 h2 => hK _ μ' w' h1 h2 (same_put tmps o.dst v))
  | some gw =>
    obtain ⟨j, want⟩ := gw
    rw [hg] at hs
    obtain ⟨t, ht, hs⟩ := hs
    have hy : ∀ u, tmps[t]? = some u → yielded ops tmps j = (match u with | .bool b => some b | _ => none) := by
      intro u hu
      unfold yielded
      rw [ht]
      simp only [Option.bind_some, hu]
      cases u <;> rfl
    rcases hs with ⟨h1, h2⟩ | ⟨h1, rfl⟩
    · obtain ⟨v, hv, hr⟩ := tmp_val h h1 (by simp)
      have hb := inv_bool hr
      subst hb
      have : Region.wanted o (yielded ops tmps) = true := by simp [Region.wanted, hg, hy _ hv]
      simp only [this, if_true]
      exact stepR_wpIn h hdst h2 (fun v μ' w' h1 h2 => hK _ μ' w' h1 h2 (same_put tmps o.dst v))
    · have : Region.wanted o (yielded ops tmps) = false := by
        rcases h1 with h1 | h1
        · obtain ⟨v, hv, hr⟩ := tmp_val h h1 (by simp)
          have hb := inv_bool hr
          subst hb
          simp only [Region.wanted, hg, hy _ hv]
          cases want <;> rfl
        · obtain ⟨v, hv, hr⟩ := tmp_val h h1 (by simp)
          cases hr
          simp [Region.wanted, hg, hy _ hv, Go.undef]
      simp only [this, Bool.false_eq_true, if_false]
      refine ⟨fun _ _ => trivial, ?_⟩
      rw [put_act]
      exact hK _ μ w (h.put .void o.dst) (KeepO.refl _ _ _) (same_put tmps o.dst _)

/-- The text's order. -/
inductive Seq (P : Program) (ops : Array Oper) : List Oper → St → St → Prop where
  | nil (s : St) : Seq P ops [] s s
  | cons {o : Oper} {os : List Oper} {s s1 s' : St} (hd : dstOk o = true) (h : StepG P ops o s s1) (ht : Seq P ops os s1 s') : Seq P ops (o :: os) s s'

theorem seq_wp : ∀ (os : List Oper) (k : Nat) (st : St) (μ : Pl) (tmps : Array Value) (w : World), (∀ i o, os[i]? = some o → ops[k + i]? = some o) → Seq P ops os st st' → StRel base out st μ tmps w → ∀ {ds : List Deferred},
    (∀ tmps' μ' w', StRel base out st' μ' tmps' w' → KeepO base (ownOf out μ) w (ownOf out μ') w' → Same (opDsts os) tmps tmps' → Q .normal { tmps := tmps', defers := ds } w') →
    wpOpsIn (fence rd) n P ops Q (List.range' k os.length) { tmps := tmps, defers := ds } w
  | [], k, st, μ, tmps, w, _, hs, h, ds, hK => by
    cases hs
    exact hK _ μ w h (KeepO.refl _ _ _) (Same.refl _ _)
  | o :: os, k, st, μ, tmps, w, hos, hs, h, ds, hK => by
    cases hs with
    | cons hd h1 ht =>
    rw [List.length_cons, List.range'_succ, wpOpsIn_cons]
    refine stepG_wpIn h (by simpa using hos 0 o (by simp)) hd h1 (fun tmps' μ' w' h2 hB hS => ?_)
    exact seq_wp os (k + 1) _ μ' tmps' w' (fun i o' hi => by have := hos (i + 1) o' (by simpa using hi); rwa [show k + 1 + i = k + (i + 1) by omega]) ht h2
      (fun tmps2 μ2 w2 h3 hB2 hS2 => hK tmps2 μ2 w2 h3 (hB.trans hB2) (hS.cons hS2))

theorem region_seq (hs : Seq P ops ops.toList st st') (h : StRel base out st μ tmps w) {id : Nat} {ds : List Deferred}
    (hK : ∀ tmps' μ' w', StRel base out st' μ' tmps' w' → KeepO base (ownOf out μ) w (ownOf out μ') w' → Same (opDsts ops.toList) tmps tmps' → Q .normal { tmps := tmps', defers := ds } w') :
    (Code.region id ops false).wpIn (fence rd) n P Q { tmps := tmps, defers := ds } w := by
  refine wpIn_region ?_
  have := seq_wp (n := n) (rd := rd) (Q := Q) ops.toList 0 st μ tmps w (fun i o hi => by simpa using hi) hs h (ds := ds) hK
  rw [List.range_eq_range']
  simpa using this

theorem back_spec (hb : backB ops = true) {j : Nat} {o : Oper} (ho : ops[j]? = some o) {e : Edge} (he : e ∈ o.after) (hbi : Region.binds .any e = true) : e.on < j := by
  simp only [backB, List.all_eq_true] at hb
  have hm : (o, j) ∈ ops.toList.zipIdx := by
    rw [List.mem_iff_getElem?]
    exact ⟨j, by simp [List.getElem?_zipIdx, ho]⟩
  have := hb _ hm e (by simpa using he)
  simpa [hbi] using this

/-- Whatever operation is ready comes next. -/
theorem any_wp (hback : backB ops = true) {ds : List Deferred} : ∀ (fuel : Nat) (listed : Array Bool) (rs : List Rec) (st : St) (μ : Pl) (tmps : Array Value) (w : World),
    rs.length ≤ fuel → (rs.map (·.i)).Pairwise (· < ·) → listed.size = ops.size → (∀ i, i ∈ rs.map (·.i) ↔ listed[i]? = some false) →
    (∀ (k : Nat) o, ops[k]? = some o → listed[k]? = some true → ∀ e ∈ o.after, Region.binds .any e = true → listed[e.on]? = some true) →
    rs.Pairwise (fun a b => Anc ops a.i b.i ∨ indepB ops a.key b.key = true) → Chain P ops rs st st' → StRel base out st μ tmps w →
    (∀ tmps' μ' w', StRel base out st' μ' tmps' w' → KeepO base (ownOf out μ) w (ownOf out μ') w' → Same (opDsts ops.toList) tmps tmps' → Q .normal { tmps := tmps', defers := ds } w') →
    wpAnyIn (fence rd) n P .any ops Q fuel listed { tmps := tmps, defers := ds } w := by
  intro fuel
  induction fuel with
  | zero =>
    intro listed rs st μ tmps w hlen hsort hsize hmem hclosed hpairs hchain h hK
    have hnil : rs = [] := List.eq_nil_of_length_eq_zero (by omega)
    subst hnil
    cases hchain
    refine ⟨?_, hK tmps μ w h (KeepO.refl _ _ _) (Same.refl _ _)⟩
    refine List.eq_nil_iff_forall_not_mem.2 fun j hj => ?_
    obtain ⟨h1, o, ho, _⟩ := mem_ready.1 hj
    have hjl : j < listed.size := by rw [hsize]; exact (Array.getElem?_eq_some_iff.1 ho).1
    have : listed[j]? = some false := by
      simp [hjl] at h1 ⊢
      exact h1
    have := (hmem j).2 this
    simp at this
  | succ fuel ih =>
    intro listed rs st μ tmps w hlen hsort hsize hmem hclosed hpairs hchain h hK
    refine ⟨fun hready => ?_, fun i hi => ?_⟩
    · cases rs with
      | nil => cases hchain; exact hK tmps μ w h (KeepO.refl _ _ _) (Same.refl _ _)
      | cons r rs =>
        exfalso
        cases hchain with
        | cons ho hd hl ht =>
        rename_i o
        have hun := (hmem r.i).1 (by simp)
        have : r.i ∈ Region.ready .any ops listed := by
          refine mem_ready.2 ⟨by simp [hun], o, ho, fun e he hb => ?_⟩
          have hlt := back_spec hback ho he hb
          have hel : e.on < listed.size := by
            rw [hsize]
            have := (Array.getElem?_eq_some_iff.1 ho).1
            omega
          have hnot : e.on ∉ (r :: rs).map (·.i) := by
            simp only [List.map_cons, List.mem_cons, not_or]
            refine ⟨by omega, fun hc => ?_⟩
            simp only [List.map_cons, List.pairwise_cons] at hsort
            have := hsort.1 _ hc
            omega
          have hb' : listed[e.on] ≠ false := fun hc => hnot ((hmem e.on).2 (by simp [hel, hc]))
          simp [hel]
          simpa using hb'
        rw [hready] at this
        cases this
    · obtain ⟨h1, o, ho, hall⟩ := mem_ready.1 hi
      have hil : i < listed.size := by rw [hsize]; exact (Array.getElem?_eq_some_iff.1 ho).1
      have hun : listed[i]? = some false := by
        simp [hil] at h1 ⊢
        exact h1
      have hin := (hmem i).2 hun
      simp only [List.mem_map] at hin
      obtain ⟨r, hr, rfl⟩ := hin
      obtain ⟨A, B, rfl⟩ := List.append_of_mem hr
      have hanc : ∀ a b, Anc ops a b → listed[b]? = some true ∨ b = r.i → listed[a]? = some true := by
        intro a b hab
        induction hab with
        | edge ho' he hb =>
          rintro (hk | rfl)
          · exact hclosed _ _ ho' hk _ he hb
          · rw [ho] at ho'
            cases ho'
            have := hall _ he hb
            simp only [Array.getD_eq_getD_getElem?] at this
            cases hk : listed[(_ : Nat)]? with
            | none => rw [hk] at this; cases this
            | some b => rw [hk] at this; simp at this; rw [this]
        | step h1 h2 ih1 ih2 => intro hk; exact ih1 (.inl (ih2 hk))
      have hA : ∀ a ∈ A, indepB ops a.key r.key = true := by
        intro a ha
        rw [List.pairwise_append] at hpairs
        rcases hpairs.2.2 a ha r (by simp) with hc | hc
        · exfalso
          have h2 := hanc _ _ hc (.inr rfl)
          have h3 := (hmem a.i).1 (by simp only [List.mem_map]; exact ⟨a, by simp [ha], rfl⟩)
          rw [h2] at h3
          cases h3
        · exact hc
      have hch := bubble A st hA hchain
      cases hch with
      | cons ho' hd hl ht =>
      rw [ho] at ho'
      cases ho'
      refine stepG_wpIn h ho hd hl.1.step (fun tmps' μ' w' h2 hB hS => ?_)
      have hsub : (A ++ B).Sublist (A ++ r :: B) := List.Sublist.append_left (List.sublist_cons_self r B) A
      refine ih (listed.setIfInBounds r.i true) (A ++ B) _ μ' tmps' w' (by simp at hlen ⊢; omega) (hsort.sublist (hsub.map _)) (by simp [hsize]) (fun k => ?_) (fun k o' hk hlk e he hb => ?_) (hpairs.sublist hsub) ht h2
        (fun tmps2 μ2 w2 h3 hB2 hS2 => hK tmps2 μ2 w2 h3 (hB.trans hB2) (hS.within hS2 (opDsts_mem (os := ops.toList) (by simpa using Array.mem_of_getElem? ho))))
      · rw [Array.getElem?_setIfInBounds]
        by_cases hk : r.i = k
        · subst hk
          simp only [if_true, hil]
          constructor
          · intro hc
            exfalso
            rw [List.map_append, List.pairwise_append] at hsort
            simp only [List.map_append, List.mem_append] at hc
            rcases hc with hc | hc
            · have := hsort.2.2 _ hc r.i (by simp); omega
            · have := hsort.2.1
              simp only [List.map_cons, List.pairwise_cons] at this
              have := this.1 _ hc; omega
          · intro hc; cases hc
        · rw [if_neg hk, ← hmem k]
          simp only [List.map_append, List.map_cons, List.mem_append, List.mem_cons]
          constructor
          · rintro (hc | hc)
            · exact .inl hc
            · exact .inr (.inr hc)
          · rintro (hc | rfl | hc)
            · exact .inl hc
            · exact absurd rfl hk
            · exact .inr hc
      · have hon : listed[e.on]? = some true := by
          rw [Array.getElem?_setIfInBounds] at hlk
          by_cases hkr : r.i = k
          · subst hkr
            rw [ho] at hk
            cases hk
            have := hall e he hb
            simp only [Array.getD_eq_getD_getElem?] at this
            cases hk2 : listed[e.on]? with
            | none => rw [hk2] at this; cases this
            | some b => rw [hk2] at this; simp at this; rw [this]
          · rw [if_neg hkr] at hlk
            exact hclosed k o' hk hlk e he hb
        rw [Array.getElem?_setIfInBounds]
        split
        · first | rfl | (split <;> simp_all)
        · exact hon

theorem pairs_spec (hm : ∀ k i, ((masks ops.toList []).getD k 0).testBit i = true → Anc ops i k) : ∀ {rs : List Rec}, pairsB ops (masks ops.toList []) (rs.map Rec.key) = true → rs.Pairwise (fun a b => Anc ops a.i b.i ∨ indepB ops a.key b.key = true)
  | [], _ => .nil
  | a :: rs, h => by
    simp only [List.map_cons, pairsB, Bool.and_eq_true, List.all_eq_true, List.mem_map, forall_exists_index, and_imp, forall_apply_eq_imp_iff₂, Bool.or_eq_true] at h
    refine .cons (fun b hb => ?_) (pairs_spec hm h.2)
    rcases h.1 b hb with h1 | h1
    · exact .inl (hm _ _ h1)
    · exact .inr h1

theorem region_draw (hfol : P.follows .mixedOrders = true) (hback : backB ops = true) {rs : List Rec} (hi : rs.map (·.i) = List.range ops.size) (hp : pairsB ops (masks ops.toList []) (rs.map Rec.key) = true)
    (hc : Chain P ops rs st st') (h : StRel base out st μ tmps w) {id : Nat} {ds : List Deferred}
    (hK : ∀ tmps' μ' w', StRel base out st' μ' tmps' w' → KeepO base (ownOf out μ) w (ownOf out μ') w' → Same (opDsts ops.toList) tmps tmps' → Q .normal { tmps := tmps', defers := ds } w') :
    (Code.region id ops true).wpIn (fence rd) n P Q { tmps := tmps, defers := ds } w := by
  refine wpIn_region_any hfol ?_
  have hB0 : Below w.heap.size w { w with drawn := w.drawn + 1 } := (Below.refl _ w).drew
  have hlen : rs.length = ops.size := by have := congrArg List.length hi; simpa using this
  refine any_wp hback ops.size _ rs st μ tmps _ (by omega) (by rw [hi]; exact List.pairwise_lt_range) (by simp) (fun i => ?_) (fun k o ho hk => ?_)
    (pairs_spec (fun k i => masks_spec ops.toList [] (fun k i hk => by simp at hk) (fun k o hk => by simpa using hk) k i) hp) hc (h.below hB0) (fun tmps' μ' w' h1 hB hS => hK tmps' μ' w' h1 ((KeepO.below hB0 h.le).trans hB) hS)
  · rw [hi]
    simp only [List.mem_range, Array.getElem?_replicate]
    split <;> simp_all
  · simp only [Array.getElem?_replicate] at hk
    split at hk <;> simp at hk

end
end Go.Ab
/- Code, on abstract states: what a walk must come to, and its rules. -/
namespace Go.Ab
open Go.RowKit

/-- What holds of the world beside the frame: in a phase, with a base, with what others own. -/
abbrev Env := Option Nat → Own → Own → World → Prop

/-- What is nobody's stays as it lies, and nobody's. -/
def Stays (w : World) (own : Own) (w' : World) (own' : Own) : Prop := w.heap.size ≤ w'.heap.size ∧ ∀ b, b < w.heap.size → ¬ own b → w'.heap[b]? = w.heap[b]? ∧ ¬ own' b

theorem Stays.refl (w : World) (own : Own) : Stays w own w own := ⟨Nat.le_refl _, fun _ _ ho => ⟨rfl, ho⟩⟩
theorem Stays.trans {a b c : World} {o1 o2 o3 : Own} (h : Stays a o1 b o2) (h' : Stays b o2 c o3) : Stays a o1 c o3 :=
  ⟨Nat.le_trans h.1 h'.1, fun k hk ho => let ⟨p1, p2⟩ := h.2 k hk ho; let ⟨p3, p4⟩ := h'.2 k (Nat.lt_of_lt_of_le hk h.1) p2; ⟨p3.trans p1, p4⟩⟩
theorem Stays.less {w : World} {own own' : Own} (h : ∀ b, own' b → own b) : Stays w own w own' := ⟨Nat.le_refl _, fun b _ ho => ⟨rfl, fun hc => ho (h b hc)⟩⟩
theorem Stays.goes {w w' : World} {own own' : Own} (h : Stays w own w' own') : Goes w own w' own' := fun b o v h1 h2 => by
  obtain ⟨h3, h4⟩ := h.2 b (cell_lt h2) h1
  refine ⟨h4, ?_⟩
  simp only [World.cell?] at h2 ⊢
  rw [h3]; exact h2

/-- The deferred calls are marks of loops over functions, and nothing else; they lie at B or above it, and are nobody's. -/
def Marked (B : Nat) (own : Own) (ds : List Deferred) (w : World) : Prop :=
  B ≤ w.heap.size ∧ ∃ rs : List Nat, ds = rs.map (fun r => { target := .collected r, args := #[] }) ∧ rs.Nodup ∧ ∀ r ∈ rs, B ≤ r ∧ ¬ own r ∧ w.heap[r]? = some (.deferred (some []))

theorem Marked.nil {B : Nat} {own : Own} {w : World} (h : B ≤ w.heap.size) : Marked B own [] w := ⟨h, [], rfl, .nil, fun _ h => by cases h⟩

theorem Marked.stays {B : Nat} {own own' : Own} {ds : List Deferred} {w w' : World} (h : Marked B own ds w) (hs : Stays w own w' own') : Marked B own' ds w' :=
  let ⟨h0, rs, h1, h2, h3⟩ := h
  ⟨Nat.le_trans h0 hs.1, rs, h1, h2, fun r hr => let ⟨p1, p2, p3⟩ := h3 r hr; let ⟨q1, q2⟩ := hs.2 r (Array.getElem?_eq_some_iff.1 p3).1 p2; ⟨p1, q2, q1.trans p3⟩⟩

/-- A turn of one block that is no cells. -/
structure Other (b : Nat) (w w' : World) : Prop where
  wrote : Wrote b w w'
  no : ∀ cs ty x, w.heap[b]? ≠ some (.cells cs ty x)

/-- What holds beside the frame abides a turn of a block that is no cells, is nobody's, and lies at B or above it. -/
def EnvOk (B : Nat) (J : Env) : Prop := ∀ k b o w w' r, B ≤ r → ¬ o r → Other r w w' → J k b o w → J k b o w'

/-- The slots that a piece of code writes. -/
def dsts : Code → List Nat
  | .region _ ops _ => opDsts ops.toList
  | .seq a b => dsts a ++ dsts b
  | .cond _ a b => dsts a ++ dsts b
  | .block _ c => dsts c
  | .loop c => dsts c
  | .scope c => dsts c
  | .rangeFunc _ ps a b => ps.toList ++ (dsts a ++ dsts b)
  | _ => []

/-- What a piece of code has come to, from a frame with temporaries 'tmps', in a world 'w', 'own' being owned. -/
def Ends (J : Env) (B : Nat) (D : List Nat) (own : Own) (tmps : Array Value) (w : World) (Q : Exit → Option Nat → St → Prop) (e : Exit) (a : Act) (w' : World) : Prop :=
  ∃ k' st' base' out' μ', StRel base' out' st' μ' a.tmps w' ∧ (∀ w'', BelowU base' w' w'' → J k' base' out' w'') ∧ Marked B (ownOf out' μ') a.defers w' ∧
    Stays w own w' (ownOf out' μ') ∧ Same D tmps a.tmps ∧ Q e k' st'

def Walk (P : Program) (rd : Option Nat) (n : Nat) (J : Env) (c : Code) (k : Option Nat) (st : St) (Q : Exit → Option Nat → St → Prop) : Prop :=
  ∀ B base out μ tmps w ds, EnvOk B J → StRel base out st μ tmps w → (∀ w', BelowU base w w' → J k base out w') → Marked B (ownOf out μ) ds w →
    c.wpIn (fence rd) n P (Ends J B (dsts c) (ownOf out μ) tmps w Q) { tmps := tmps, defers := ds } w

section
variable {P : Program} {rd : Option Nat} {n : Nat} {J : Env} {c x y : Code} {k : Option Nat} {st : St} {Q Q' : Exit → Option Nat → St → Prop}

theorem Ends.mono {B : Nat} {D D' : List Nat} {own : Own} {tmps : Array Value} {w : World} {e : Exit} {a : Act} {w' : World} (h : Ends J B D own tmps w Q e a w') (hD : ∀ i, i ∈ D → i ∈ D') (hq : ∀ k s, Q e k s → Q' e k s) :
    Ends J B D' own tmps w Q' e a w' :=
  let ⟨k', st', base', out', μ', h1, h2, h3, h4, h5, h6⟩ := h
  ⟨k', st', base', out', μ', h1, h2, h3, h4, h5.mono hD, hq _ _ h6⟩

/-- First one piece of code, then another. -/
theorem Ends.andThen {B : Nat} {D D' D2 : List Nat} {own own1 : Own} {tmps tmps1 : Array Value} {w w1 : World} {e : Exit} {a : Act} {w' : World}
    (hs : Stays w own w1 own1) (hS : Same D tmps tmps1)
    (h : Ends J B D2 own1 tmps1 w1 Q e a w') (hD : ∀ i, i ∈ D → i ∈ D') (hD2 : ∀ i, i ∈ D2 → i ∈ D') : Ends J B D' own tmps w Q e a w' :=
  let ⟨k', st', base', out', μ', h1, h2, h3, h4, h5, h6⟩ := h
  ⟨k', st', base', out', μ', h1, h2, h3, hs.trans h4, (hS.mono hD).trans (h5.mono hD2), h6⟩

theorem walk_mono (h : Walk P rd n J c k st Q) (hq : ∀ e k s, Q e k s → Q' e k s) : Walk P rd n J c k st Q' :=
  fun B base out μ tmps w ds hO hA hJ hM => wpIn_mono (h B base out μ tmps w ds hO hA hJ hM) fun _ _ _ he => he.mono (fun _ h => h) (fun k s => hq _ k s)

theorem Ends.now {B : Nat} {D : List Nat} {base : Own} {out : Own} {μ : Pl} {tmps : Array Value} {w : World} {ds : List Deferred} {e : Exit} (hA : StRel base out st μ tmps w) (hJ : ∀ w', BelowU base w w' → J k base out w') (hM : Marked B (ownOf out μ) ds w) (h : Q e k st) :
    Ends J B D (ownOf out μ) tmps w Q e { tmps := tmps, defers := ds } w := ⟨k, st, base, out, μ, hA, hJ, hM, .refl _ _, Same.refl _ _, h⟩

theorem walk_skip (h : Q .normal k st) : Walk P rd n J .skip k st Q := fun B base out μ tmps w ds hO hA hJ hM => wpIn_skip (.now hA hJ hM h)
theorem walk_label {l : Nat} (h : Q .normal k st) : Walk P rd n J (.label l) k st Q := fun B base out μ tmps w ds hO hA hJ hM => wpIn_label (.now hA hJ hM h)
theorem walk_exit {id : Nat} (h : Q (.exit id) k st) : Walk P rd n J (.exit id) k st Q := fun B base out μ tmps w ds hO hA hJ hM => wpIn_exit (.now hA hJ hM h)
theorem walk_goto {l : Nat} (h : Q (.goto l) k st) : Walk P rd n J (.goto l) k st Q := fun B base out μ tmps w ds hO hA hJ hM => wpIn_goto (.now hA hJ hM h)
theorem walk_ret (h : Q .ret k st) : Walk P rd n J .ret k st Q := fun B base out μ tmps w ds hO hA hJ hM => wpIn_ret (.now hA hJ hM h)

/-- What follows where a piece of code ends normally. -/
def thenA (K : Option Nat → St → Prop) (Q : Exit → Option Nat → St → Prop) : Exit → Option Nat → St → Prop
  | .normal => K
  | e => Q e

theorem walk_seq (h : Walk P rd n J x k st (thenA (fun k s => Walk P rd n J y k s Q) Q)) : Walk P rd n J (.seq x y) k st Q := fun B base out μ tmps w ds hO hA hJ hM => by
  refine wpIn_seq (wpIn_mono (h B base out μ tmps w ds hO hA hJ hM) ?_)
  rintro e a w' he
  cases e with
  | normal =>
    obtain ⟨k', st', base', out', μ', h1, h2, h3, h4, h5, h6⟩ := he
    exact wpIn_mono (h6 B base' out' μ' a.tmps w' a.defers hO h1 h2 h3) fun e a2 w2 he => he.andThen h4 h5 (fun i hi => by simp [dsts, hi]) (fun i hi => by simp [dsts, hi])
  | _ => exact he.mono (fun i hi => by simp [dsts, hi]) (fun _ _ h => h)

/-- What a block makes of a jump to its end. -/
def blockA (id : Nat) (Q : Exit → Option Nat → St → Prop) : Exit → Option Nat → St → Prop
  | .exit i => if i = id then Q .normal else Q (.exit i)
  | e => Q e

theorem walk_block {id : Nat} (h : Walk P rd n J c k st (blockA id Q)) : Walk P rd n J (.block id c) k st Q := fun B base out μ tmps w ds hO hA hJ hM => by
  refine wpIn_block (wpIn_mono (h B base out μ tmps w ds hO hA hJ hM) ?_)
  rintro e a w' ⟨k', st', base', out', μ', h1, h2, h3, h4, h5, h6⟩
  cases e with
  | exit id' =>
    simp only [Exit.inBlock, blockA] at h6 ⊢
    by_cases hid : id' = id
    · rw [if_pos hid] at h6 ⊢; exact ⟨k', st', base', out', μ', h1, h2, h3, h4, h5, h6⟩
    · rw [if_neg hid] at h6 ⊢; exact ⟨k', st', base', out', μ', h1, h2, h3, h4, h5, h6⟩
  | _ => exact ⟨k', st', base', out', μ', h1, h2, h3, h4, h5, h6⟩

theorem walk_cond {o : Operand} {b : Bool} (hc : st.ev o = .d (.bool b)) (h1 : b = true → Walk P rd n J x k st Q) (h2 : b = false → Walk P rd n J y k st Q) : Walk P rd n J (.cond o x y) k st Q :=
  fun B base out μ tmps w ds hO hA hJ hM => by
    have he := hA.ev o ds
    rw [hc] at he
    refine wpIn_cond_split (t := b) (inv_bool he) (fun hb => wpIn_mono (h1 hb B base out μ tmps w ds hO hA hJ hM) ?_) (fun hb => wpIn_mono (h2 hb B base out μ tmps w ds hO hA hJ hM) ?_)
    · exact fun _ _ _ h => h.mono (fun i hi => by simp [dsts, hi]) (fun _ _ h => h)
    · exact fun _ _ _ h => h.mono (fun i hi => by simp [dsts, hi]) (fun _ _ h => h)

/-! ### A state that tells less -/

/-- What stands for st stands for st' too. -/
def Weak (st st' : St) : Prop := ∀ (base : Own) (out : Own) (μ : Pl) (tmps : Array Value) (w : World), StRel base out st μ tmps w → ∃ μ', StRel base out st' μ' tmps w ∧ ∀ b, ownOf out μ' b → ownOf out μ b

theorem Weak.refl (st : St) : Weak st st := fun _ _ μ _ _ h => ⟨μ, h, fun _ hb => hb⟩
theorem Weak.trans {a b c : St} (h : Weak a b) (h' : Weak b c) : Weak a c := fun base out μ tmps w hs =>
  let ⟨μ', h1, h2⟩ := h base out μ tmps w hs
  let ⟨μ2, h3, h4⟩ := h' base out μ' tmps w h1
  ⟨μ2, h3, fun b hb => h2 b (h4 b hb)⟩

theorem walk_weak {st' : St} (hw : Weak st st') (h : Walk P rd n J c k st' Q) : Walk P rd n J c k st Q := fun B base out μ tmps w ds hO hA hJ hM => by
  obtain ⟨μ', h1, hsub⟩ := hw base out μ tmps w hA
  refine wpIn_mono (h B base out μ' tmps w ds hO h1 hJ (hM.stays (.less hsub))) fun e a w' he => ?_
  exact he.andThen (D := []) (.less hsub) (Same.refl _ _) (fun _ h => by cases h) (fun _ h => h)

/-- A loop: 'f' tells the states at its head by something simpler. -/
theorem walk_loop {α : Type} (f : α → St) (I : Option Nat → α → Prop) (m : Option Nat → α → Nat) (a : α) (hw : Weak st (f a)) (h0 : I k a)
    (h : ∀ k a, I k a → Walk P rd n J c k (f a) (thenA (fun k' s => ∃ a', Weak s (f a') ∧ I k' a' ∧ m k' a' < m k a) Q)) : Walk P rd n J (.loop c) k st Q := walk_weak hw fun B base0 out0 μ0 tmps0 w0 ds0 hO hA0 hJ0 hM0 => by
  have key : ∀ (j : Nat) (k : Option Nat) (a : α) base out μ tmps w ds, m k a = j → I k a → StRel base out (f a) μ tmps w → (∀ w', BelowU base w w' → J k base out w') → Marked B (ownOf out μ) ds w →
      Stays w0 (ownOf out0 μ0) w (ownOf out μ) → Same (dsts c) tmps0 tmps →
      ∀ b k' cs, b.roundOf = (fence rd).round → (fence rd).fn b.fn → (fence rd).room (cs.length + 1 + n) →
      ∃ e a' w', Ends J B (dsts c) (ownOf out0 μ0) tmps0 w0 Q e a' w' ∧
        ArrivesIn (Machine.fenced P (fence rd)) P (lone (b.atR { tmps := tmps, defers := ds } (.code c :: .inLoop c :: k')) cs w) b k' cs e a' w' := by
    intro j
    induction j using Nat.strongRecOn with
    | _ j ih =>
      intro k a base out μ tmps w ds hj hI hA hJ hM hst hS b kk cs hro hb hr
      obtain ⟨e, a1, w1, he, harr⟩ := h k a hI B base out μ tmps w ds hO hA hJ hM b (.inLoop c :: kk) cs hro hb hr
      cases e with
      | normal =>
        obtain ⟨k1, s1, base1, out1, μ1, hA1, hJ1, hM1, hst1, hS1, hq⟩ := he
        obtain ⟨a2, hw2, hI2, hlt⟩ := hq
        obtain ⟨μ2, hA2, hsub⟩ := hw2 base1 out1 μ1 a1.tmps w1 hA1
        obtain ⟨e2, a3, w3, hq3, harr3⟩ := ih (m k1 a2) (hj ▸ hlt) k1 a2 base1 out1 μ2 a1.tmps w1 a1.defers rfl hI2 hA2 hJ1 (hM1.stays (.less hsub)) ((hst.trans hst1).trans (.less hsub)) (hS.trans hS1) b kk cs hro hb hr
        exact ⟨e2, a3, w3, hq3, .of_steps (StepsIn.trans harr (.one (fenced_calm hb hr rfl) stepR_inLoop)) harr3⟩
      | exit id => exact ⟨_, a1, w1, Ends.andThen (Q := Q) hst hS he (fun _ h => h) (fun _ h => h), .pass (x := .inLoop c) rfl (fun _ _ => .inl (by simp)) harr⟩
      | goto l => exact ⟨_, a1, w1, Ends.andThen (Q := Q) hst hS he (fun _ h => h) (fun _ h => h), .pass (x := .inLoop c) rfl (fun _ _ => .inl (by simp)) harr⟩
      | ret => exact ⟨_, a1, w1, Ends.andThen (Q := Q) hst hS he (fun _ h => h) (fun _ h => h), .pass (x := .inLoop c) rfl (fun _ _ => .inl (by simp)) harr⟩
      | panic ch => exact ⟨_, a1, w1, Ends.andThen (Q := Q) hst hS he (fun _ h => h) (fun _ h => h), .pass (x := .inLoop c) rfl (fun _ _ => .inl (by simp)) harr⟩
      | outgrown => exact ⟨_, a1, w1, Ends.andThen (Q := Q) hst hS he (fun _ h => h) (fun _ h => h), .pass (x := .inLoop c) rfl (fun _ _ => .inl (by simp)) harr⟩
  intro b kk cs hro hb hr
  obtain ⟨e, a', w', hq, harr⟩ := key _ k a base0 out0 μ0 tmps0 w0 ds0 rfl h0 hA0 hJ0 hM0 (.refl _ _) (Same.refl _ _) b kk cs hro hb hr
  exact ⟨e, a', w', hq, .of_steps (.one (fenced_calm hb hr rfl) stepR_loop) harr⟩

end
end Go.Ab
/- Regions, as propositions that can be computed. -/
namespace Go.Ab
open Go.RowKit

def bindK {α : Type} (x : Option α) (K : α → Prop) : Prop := ∃ a, x = some a ∧ K a

theorem bindK_some {α : Type} (a : α) (K : α → Prop) : bindK (some a) K = K a := by simp [bindK]
theorem bindK_none {α : Type} (K : α → Prop) : bindK none K = False := by simp [bindK]
theorem bindK_ite {α : Type} (c : Prop) [Decidable c] (a : Option α) (K : α → Prop) : bindK (if c then a else none) K = (c ∧ bindK a K) := by
  by_cases h : c <;> simp [bindK, h]
theorem bindK_map {α β : Type} (f : α → β) (a : Option α) (K : β → Prop) : bindK (a.map f) K = bindK a (fun x => K (f x)) := by
  cases a <;> simp [bindK]

/-- What must be so for an operation to be carried out or skipped; the rest is told of by a name. -/
def guardK (x : AV) (want : Bool) (A B : Prop) : Prop := match x with
  | .d (.bool b) => (b = want → A) ∧ (b = !want → B)
  | .void => B
  | _ => False

/-- A call, and what follows. -/
def callK (P : Program) (s : St) (dst : Option Tmp) (g : FuncId) (xs : List AV) (K : St → Prop) : Prop := ∃ s', CallR P s dst g xs s' ∧ K s'

def stepK (P : Program) (o : Oper) (s : St) (K : St → Prop) : Prop := match isCall o with
  | true => bindK (callOf o s) fun gx => callK P s o.dst gx.1 gx.2 K
  | false => bindK (stepOp P o s) K

theorem stepK_spec {P : Program} {o : Oper} {s : St} {K : St → Prop} (h : stepK P o s K) : ∃ s', StepR P o s s' ∧ K s' := by
  unfold stepK at h
  cases hc : isCall o with
  | true =>
    rw [hc] at h
    obtain ⟨gx, h1, s', h2, h3⟩ := h
    exact ⟨s', .inl ⟨gx.1, gx.2, h1, h2⟩, h3⟩
  | false =>
    rw [hc] at h
    obtain ⟨s', h1, h2⟩ := h
    exact ⟨s', .inr ⟨hc, h1⟩, h2⟩

/-- A guard, and what follows: where it is not known, what follows is told of by a name. -/
def guardedK (P : Program) (t : AV) (want : Bool) (o : Oper) (s : St) (K : St → Prop) : Prop := guardK t want (stepK P o s K) (K (s.put o.dst .void))

def guardRun (P : Program) (t : AV) (want : Bool) (o : Oper) (s : St) (R : St → Prop) : Prop := ∀ K' : St → Prop, (∀ s, R s → K' s) → guardedK P t want o s K'

def runK (P : Program) (ops : Array Oper) : List Oper → St → (St → Prop) → Prop
  | [], s, K => K s
  | o :: os, s, K => dstOk o = true ∧ match guardT ops o with
    | none => False
    | some none => stepK P o s fun s => runK P ops os s K
    | some (some (t, want)) => guardRun P (s.ev (.tmp t)) want o s fun s => runK P ops os s K

section
variable {P : Program} {rd : Option Nat} {n : Nat} {J : Env} {k : Option Nat} {st : St} {ops : Array Oper} {Q : Exit → Option Nat → St → Prop}

theorem guardT_plain {o : Oper} (h : guardT ops o = some none) : o.guard = none := by
  unfold guardT at h
  split at h
  · assumption
  · rw [Option.map_eq_some_iff] at h; obtain ⟨_, _, h⟩ := h; cases h

theorem guardT_some {o : Oper} {t : Tmp} {want : Bool} (h : guardT ops o = some (some (t, want))) : ∃ j, o.guard = some (j, want) ∧ (ops[j]?).bind (·.dst) = some t := by
  unfold guardT at h
  split at h
  · cases h
  · rename_i j w hg
    rw [Option.map_eq_some_iff] at h
    obtain ⟨t', h1, h2⟩ := h
    cases h2
    exact ⟨j, hg, h1⟩

theorem runK_seq : ∀ (os : List Oper) (s : St) (K : St → Prop), runK P ops os s K → ∃ s', Seq P ops os s s' ∧ K s'
  | [], s, _, h => ⟨s, .nil s, h⟩
  | o :: os, s, K, h => by
    obtain ⟨hd, h⟩ := h
    cases hg : guardT ops o with
    | none => rw [hg] at h; exact h.elim
    | some g =>
      rw [hg] at h
      cases g with
      | none =>
        obtain ⟨s1, h1, h2⟩ := stepK_spec h
        obtain ⟨s', h3, h4⟩ := runK_seq os s1 K h2
        exact ⟨s', .cons hd (by unfold StepG; rw [guardT_plain hg]; exact h1) h3, h4⟩
      | some tw =>
        obtain ⟨t, want⟩ := tw
        obtain ⟨j, hj, ht⟩ := guardT_some hg
        have h := h _ fun s hs => runK_seq os s K hs
        unfold guardedK guardK at h
        split at h
        · rename_i b hev
          by_cases hb : b = want
          · obtain ⟨s1, h1, s', h3, h4⟩ := stepK_spec (h.1 hb)
            exact ⟨s', .cons hd (by unfold StepG; rw [hj]; exact ⟨t, ht, .inl ⟨by rw [hev, hb], h1⟩⟩) h3, h4⟩
          · have hb' : b = !want := by cases b <;> cases want <;> simp_all
            obtain ⟨s', h3, h4⟩ := h.2 hb'
            exact ⟨s', .cons hd (by unfold StepG; rw [hj]; exact ⟨t, ht, .inr ⟨.inl (by rw [hev, hb']), rfl⟩⟩) h3, h4⟩
        · rename_i hev
          obtain ⟨s', h3, h4⟩ := h
          exact ⟨s', .cons hd (by unfold StepG; rw [hj]; exact ⟨t, ht, .inr ⟨.inr hev, rfl⟩⟩) h3, h4⟩
        · exact h.elim

theorem Ends.step {B : Nat} {D : List Nat} {base : Own} {out : Own} {μ μ' : Pl} {tmps tmps' : Array Value} {w w' : World} {st' : St} {ds : List Deferred} {e : Exit} (hJ : ∀ w', BelowU base w w' → J k base out w') (h : StRel base out st' μ' tmps' w')
    (hk : KeepO base (ownOf out μ) w (ownOf out μ') w') (hS : Same D tmps tmps') (hM : Marked B (ownOf out μ) ds w) (hq : Q e k st') : Ends J B D (ownOf out μ) tmps w Q e { tmps := tmps', defers := ds } w' :=
  ⟨k, st', base, out, μ', h, fun w'' h2 => hJ w'' (hk.keep.below.trans h2), hM.stays ⟨hk.keep.below.size, hk.stays⟩, ⟨hk.keep.below.size, hk.stays⟩, hS, hq⟩

theorem walk_region {id : Nat} (h : runK P ops ops.toList st (Q .normal k)) : Walk P rd n J (.region id ops false) k st Q := fun B base out μ tmps w ds _ hst hJ hM => by
  obtain ⟨s', h1, h2⟩ := runK_seq _ _ _ h
  exact region_seq h1 hst fun tmps' μ' w' h3 hk hS => .step hJ h3 hk hS hM h2

/-! ### Regions that draw their order -/
abbrev Key := Nat × List Nat × List Nat

def callEK (P : Program) (s : St) (dst : Option Tmp) (g : FuncId) (xs : List AV) (K : Eff → Prop) : Prop := ∃ e, CallE P s dst g xs e ∧ K e

/-- What follows, told of by a name: so that nothing is reckoned before it is asked. -/
def contE (C : Eff → List Nat → Prop) (N : List Nat) (e : Eff) : Prop := C e N
def contV (C : Eff → List Nat → Prop) (N : List Nat) (x : AV) : Prop := C ⟨x, none⟩ N

def effK (P : Program) (o : Oper) (s : St) (C : Eff → List Nat → Prop) : Prop := match o.op with
  | .call { callee := .value _, .. } => bindK (callOf o s) fun gx => callEK P s o.dst gx.1 gx.2 (contE C (reachAll s gx.2 ++ o.dst.toList))
  | .alloc .. | .box .. | .makeSlice .. => bindK o.dst fun d => bindK (newOp P o.op s) fun b => s.fresh d = true ∧ C ⟨nameOf d b, some (d, b)⟩ [d]
  | .buildSlice t len parts => bindK o.dst fun d => bindK (opBuildSlice P s t len (parts.toList.map fun p => (p.1, s.ev p.2))) fun b =>
      AV.refsAll (parts.toList.map fun p => s.ev p.2) = [] ∧ s.fresh d = true ∧ match b with
        | .arr e z rows => C ⟨.own d, some (d, .arr e z rows)⟩ [d]
        | _ => False
  | .store t a x => o.dst = none ∧ match s.ev a with
    | .box nm off => match s.m[nm]? with
      | some (some (.box row)) => bindK (s.ev x).cells fun cs => tsz P t = some cs.length ∧ bindK (splice row off cs) fun row' => C ⟨.void, some (nm, .box row')⟩ [nm]
      | _ => False
    | .elem nm i off => match s.m[nm]? with
      | some (some (.arr e z rows)) => bindK (s.ev x).cells fun cs => tsz P t = some cs.length ∧ bindK (rows[i]?) fun r => bindK (allSome (cs.map (reify s.m deep))) fun ds => bindK (splice r off ds) fun r' => (s.ev x).refs = [] ∧ C ⟨.void, some (nm, .arr e z (rows.set i r'))⟩ [nm]
      | _ => False
    | _ => False
  | .call { callee := .builtin .copy, args, argTypes } => match argTypes.toList, args.toList with
    | [t, _], [x, y] => bindK (opCopy P s t (s.ev x) (s.ev y)) fun r => C ⟨.d (.int .i64 r.1), some (r.2.1, r.2.2)⟩ ((s.ev x).refs ++ (s.ev y).refs)
    | _, _ => False
  | _ => bindK (valOp P o.op s) (contV C (footV o.op s))

theorem effK_spec {o : Oper} {s : St} {C : Eff → List Nat → Prop} (h : effK P o s C) : ∃ e N, LocalE P o s e N ∧ C e N := by
  unfold effK at h
  split at h
  · obtain ⟨gx, h1, e, h2, h3⟩ := h
    exact ⟨e, _, .call h1 h2, h3⟩
  · obtain ⟨d, h1, b, h2, h3, h4⟩ := h; exact ⟨_, _, .new h1 h2 h3, h4⟩
  · obtain ⟨d, h1, b, h2, h3, h4⟩ := h; exact ⟨_, _, .new h1 h2 h3, h4⟩
  · obtain ⟨d, h1, b, h2, h3, h4⟩ := h; exact ⟨_, _, .new h1 h2 h3, h4⟩
  · rename_i ho
    obtain ⟨d, h1, b, h2, h3, h4, h5⟩ := h
    split at h5
    · exact ⟨_, _, .lit ho h1 h4 h2 h3, h5⟩
    · exact h5.elim
  · rename_i ho
    obtain ⟨h1, h⟩ := h
    split at h
    · rename_i ha
      split at h
      · rename_i hn
        obtain ⟨cs, h2, h3, row', h4, h5⟩ := h
        exact ⟨_, _, .store ho h1 ha hn h2 h3 h4, h5⟩
      · exact h.elim
    · rename_i ha
      split at h
      · rename_i hn
        obtain ⟨cs, h2, h3, r, h4, ds, h5, r', h6, h7, h8⟩ := h
        exact ⟨_, _, .storeE ho h1 ha hn h2 h3 h4 h5 h6 h7, h8⟩
      · exact h.elim
    · exact h.elim
  · rename_i ho
    split at h
    · rename_i hts hargs
      obtain ⟨r, h1, h2⟩ := h
      have e1 := toList_two hts
      have e2 := toList_two hargs
      subst e1; subst e2
      exact ⟨_, _, .copy ho h1, h2⟩
    · exact h.elim
  · rename_i h1 h2 h3 h4 h5 h6 _
    obtain ⟨x, h7, h8⟩ := h
    refine ⟨_, _, .val ?_ h6 h7, h8⟩
    unfold isCall
    split
    · rename_i ho; exact absurd ho (h1 _ _ _)
    · rfl

def guardedE (P : Program) (t : AV) (want : Bool) (o : Oper) (s : St) (C : Eff → List Nat → Prop) : Prop := guardK t want (effK P o s C) (C ⟨.void, none⟩ [])

def guardRunE (P : Program) (t : AV) (want : Bool) (o : Oper) (s : St) (R : Eff → List Nat → Prop) : Prop := ∀ K' : Eff → List Nat → Prop, (∀ e N, R e N → K' e N) → guardedE P t want o s K'

def runD (P : Program) (ops : Array Oper) : List Oper → Nat → List Key → St → (St → Prop) → Prop
  | [], _, acc, s, K => pairsB ops (masks ops.toList []) acc.reverse = true ∧ K s
  | o :: os, i, acc, s, K => dstOk o = true ∧ match guardT ops o with
    | none => False
    | some none => effK P o s fun e N => runD P ops os (i + 1) ((i, e.name, N) :: acc) (s.apply o.dst e) K
    | some (some (t, want)) => guardRunE P (s.ev (.tmp t)) want o s fun e N => runD P ops os (i + 1) ((i, e.name, N) :: acc) (s.apply o.dst e) K

theorem runD_chain : ∀ (os : List Oper) (i : Nat) (acc : List Key) (s : St) (K : St → Prop), (∀ j o, os[j]? = some o → ops[i + j]? = some o) → runD P ops os i acc s K →
    ∃ rs s', Chain P ops rs s s' ∧ rs.map (·.i) = List.range' i os.length ∧ pairsB ops (masks ops.toList []) (acc.reverse ++ rs.map Rec.key) = true ∧ K s'
  | [], i, acc, s, K, _, h => ⟨[], s, .nil s, rfl, by simpa using h.1, h.2⟩
  | o :: os, i, acc, s, K, hos, h => by
    obtain ⟨hd, h⟩ := h
    have hos' : ∀ j o', os[j]? = some o' → ops[i + 1 + j]? = some o' := fun j o' hj => by have := hos (j + 1) o' (by simpa using hj); rwa [show i + 1 + j = i + (j + 1) by omega]
    have ho : ops[i]? = some o := by simpa using hos 0 o (by simp)
    have fin : ∀ (e : Eff) (N : List Nat), LocalG P ops o s e N → (∃ rs s', Chain P ops rs (s.apply o.dst e) s' ∧ rs.map (·.i) = List.range' (i + 1) os.length ∧ pairsB ops (masks ops.toList []) (((i, e.name, N) :: acc).reverse ++ rs.map Rec.key) = true ∧ K s') →
        ∃ rs s', Chain P ops rs s s' ∧ rs.map (·.i) = List.range' i (o :: os).length ∧ pairsB ops (masks ops.toList []) (acc.reverse ++ rs.map Rec.key) = true ∧ K s' := by
      rintro e N hl ⟨rs, s', h1, h2, h3, h4⟩
      refine ⟨⟨i, e, N⟩ :: rs, s', .cons ho hd hl h1, by simp [h2, List.range'_succ], ?_, h4⟩
      simpa using h3
    cases hg : guardT ops o with
    | none => rw [hg] at h; exact h.elim
    | some g =>
      rw [hg] at h
      cases g with
      | none =>
        obtain ⟨e, N, h1, h2⟩ := effK_spec h
        exact fin e N (.plain (guardT_plain hg) h1) (runD_chain os (i + 1) _ _ K hos' h2)
      | some tw =>
        obtain ⟨t, want⟩ := tw
        obtain ⟨j, hj, ht⟩ := guardT_some hg
        have h := h _ fun e N hs => runD_chain os (i + 1) _ _ K hos' hs
        unfold guardedE guardK at h
        split at h
        · rename_i b hev
          by_cases hb : b = want
          · obtain ⟨e, N, h1, h2⟩ := effK_spec (h.1 hb)
            exact fin e N (.taken hj ht (by rw [hev, hb]) h1) h2
          · have hb' : b = !want := by cases b <;> cases want <;> simp_all
            exact fin _ _ (.skipped hj ht (.inl (by rw [hev, hb']))) (h.2 hb')
        · rename_i hev
          exact fin _ _ (.skipped hj ht (.inr hev)) h
        · exact h.elim

theorem walk_drawn {id : Nat} (hfol : P.follows .mixedOrders = true) (hback : backB ops = true) (h : runD P ops ops.toList 0 [] st (Q .normal k)) : Walk P rd n J (.region id ops true) k st Q := fun B base out μ tmps w ds _ hst hJ hM => by
  obtain ⟨rs, s', h1, h2, h3, h4⟩ := runD_chain _ _ _ _ _ (fun j o hj => by simpa using hj) h
  exact region_draw hfol hback (by rw [h2, List.range_eq_range']; simp) (by simpa using h3) h1 hst fun tmps' μ' w' h5 hk hS => .step hJ h5 hk hS hM h4

end
end Go.Ab
/- A function's contract out of the walk of its body; states that tell less. -/
namespace Go.Ab
open Go.RowKit

section
variable {P : Program} {base : Own} {out : Own} {st st' : St} {μ : Pl} {tmps : Array Value} {w w' : World}

/-! ### Blocks that are no cells -/

theorem cell_block {b o : Nat} {v : Value} (h : w.cell? ⟨b, o, none⟩ = some v) : ∃ cs ty x, w.heap[b]? = some (.cells cs ty x) := by
  unfold World.cell? at h
  cases ho : w.heap[b]? with
  | none => simp [ho] at h
  | some ob => cases ob <;> simp_all

theorem Other.goes {b : Nat} (h : Other b w w') (own : Own) : Goes w own w' own := fun k o v h1 h2 => by
  refine ⟨h1, ?_⟩
  obtain ⟨cs, ty, x, hc⟩ := cell_block h2
  have hk : k ≠ b := fun e => h.no cs ty x (e ▸ hc)
  have := h.wrote.block k hk
  simp only [World.cell?] at h2 ⊢
  rw [this]; exact h2

theorem StRel.other {b : Nat} (h : StRel base out st μ tmps w) (ho : Other b w w') : StRel base out st μ tmps w' := by
  have hg := ho.goes (ownOf out μ)
  refine ⟨h.size, fun i x v h1 h2 => (h.tmp i x v h1 h2).goes hg (fun _ _ _ => rfl), ⟨fun n blk hn => ?_, h.mem.dom, h.mem.inj, fun n b z l c hb => by rw [ho.wrote.size]; exact h.mem.base n b z l c hb⟩, h.out, by rw [ho.wrote.size]; exact h.le⟩
  have hb := h.mem.blk n blk hn
  have key : ∀ (k : Nat) cs ty x, w.heap[k]? = some (Obj.cells cs ty x) → w'.heap[k]? = some (Obj.cells cs ty x) := fun k cs ty x hk => by
    rw [ho.wrote.block k (fun e => ho.no cs ty x (e ▸ hk))]; exact hk
  cases blk with
  | box row =>
    obtain ⟨b, cs, ty, h1, h2, h3, h4⟩ := hb
    exact ⟨b, cs, ty, h1, key _ _ _ _ h2, h3, fun j x v hx hv => ⟨(h4 j x v hx hv).1, (h4 j x v hx hv).2.goes hg (fun _ _ _ => rfl)⟩⟩
  | arr e z rows =>
    rcases hb with hb | ⟨b, cap, cs, h1, h2, h3, h4, h5, h6, h7⟩
    · exact .inl hb
    · exact .inr ⟨b, cap, cs, h1, key _ _ _ _ h2, h3, h4, h5, h6, fun i r j d hi hj => let ⟨v, p, q, r⟩ := h7 i r j d hi hj; ⟨v, p, q, r.goes hg⟩⟩

/-! ### Results -/

theorem load_addr (h : StRel base out st μ tmps w) {t : TypeId} {a : Operand} {r : AV} (hs : opLoad P st t (st.ev a) = some r) :
    ∃ v p, val tmps a = .pointer (some p) ∧ (loadVar t p).run P w = .ok v w ∧ AVRel w (ownOf out μ) μ r v := by
  have ha := h.ev a []
  unfold opLoad at hs
  split at hs
  · rename_i g size hg hsz
    split at hs
    · rename_i x hx
      obtain rfl : x = r := by simpa using hs
      split at hx
      · rename_i n off hev
        rw [hev] at ha
        obtain ⟨b, z, l, c, hμ, hv⟩ := inv_box ha
        split at hx
        · rename_i row hn
          obtain ⟨v, hr, hxv⟩ := load_part hg hsz (box_cells h.mem hn hμ) hx
          exact ⟨v, _, hv, by rw [Nat.zero_add] at hr; exact hr, hxv⟩
        · cases hx
      · rename_i row off hev
        rw [hev] at ha
        obtain ⟨b, x0, hv, f, hc, hd⟩ := inv_ptr ha
        obtain ⟨v, hr, hxv⟩ := load_partD (μ := μ) hg hsz (fun j y hy => ⟨f j, (hc j y hy).2.1, hd j y hy⟩) hx
        exact ⟨v, _, hv, hr, hxv⟩
      · rename_i n i off hev
        rw [hev] at ha
        obtain ⟨b, z, l, c, hμ, hv⟩ := inv_elem ha
        split at hx
        · rename_i e z' rows hn
          split at hx
          · rename_i r hi
            obtain ⟨v, hr, hxv⟩ := load_partD (μ := μ) hg hsz (arr_cells h.mem hn hμ hi) hx
            exact ⟨v, _, hv, hr, hxv⟩
          · cases hx
        · cases hx
      · cases hx
    · cases hs
  · cases hs

/-- What a result variable holds. -/
def resA (P : Program) (s : St) : ResultVar → Option AV
  | .tmp t => some (s.ev (.tmp t))
  | .cell a t => opLoad P s t (s.ev (.tmp a))

def retA : List AV → AV
  | [x] => x
  | xs => .tup xs

def resultsA (P : Program) (s : St) (rs : Array ResultVar) : Option AV := (allSome (rs.toList.map (resA P s))).map retA

def semR (tmps : Array Value) (r : ResultVar) : Sem Value := match r with
  | .tmp t => pure (tmps.getD t undef)
  | .cell a t => do loadVar t (← asAddr (tmps.getD a undef))

theorem semR_run (h : StRel base out st μ tmps w) {r : ResultVar} {x : AV} (hx : resA P st r = some x) : ∃ v, (semR tmps r).run P w = .ok v w ∧ AVRel w (ownOf out μ) μ x v := by
  cases r with
  | tmp t => cases hx; exact ⟨_, rfl, h.ev (.tmp t) []⟩
  | cell a t =>
    obtain ⟨v, p, h1, h2, h3⟩ := load_addr h hx
    refine ⟨v, ?_, h3⟩
    have : tmps.getD a undef = .pointer (some p) := h1
    simp [semR, this, asAddr, h2]

theorem results_sound (h : StRel base out st μ tmps w) {fn : Func} {x : AV} (hx : resultsA P st fn.results = some x) (h4 : fn.results.size ≤ 4) :
    ∃ v, (results fn tmps).run P w = .ok v w ∧ AVRel w (ownOf out μ) μ x v := by
  unfold resultsA at hx
  rw [Option.map_eq_some_iff] at hx
  obtain ⟨xs, hxs, rfl⟩ := hx
  obtain ⟨hl, hget⟩ := allSome_spec hxs
  have hres : results fn tmps = (do let vs ← fn.results.mapM (semR tmps); pure (if h : vs.size = 1 then vs[0] else .tuple vs)) := rfl
  obtain ⟨l, hrl⟩ : ∃ l, fn.results = List.toArray l := ⟨fn.results.toList, by simp⟩
  rw [hrl] at h4 hl hget
  simp only [List.size_toArray] at h4
  rw [hres, hrl]
  have hl : l.length = xs.length := by simpa using hl
  have get : ∀ i r, l[i]? = some r → ∃ x, xs[i]? = some x ∧ resA P st r = some x := fun i r hi => by
    have hlt : i < xs.length := by
      have := (List.getElem?_eq_some_iff.1 hi).1
      omega
    have h1 := hget i xs[i] (List.getElem?_eq_getElem hlt)
    exact ⟨xs[i], List.getElem?_eq_getElem hlt, by simpa [hi] using h1⟩
  match l, h4, hl, get with
  | [], _, hl, _ =>
    have : xs = [] := List.length_eq_zero_iff.1 hl.symm
    subst this
    exact ⟨.tuple #[], by simp, .tup _ _ rfl (fun i x v hx => by simp at hx)⟩
  | [a], _, hl, get =>
    obtain ⟨x, hx, hra⟩ := get 0 a rfl
    obtain ⟨v, hv, hrel⟩ := semR_run h hra
    match xs, hl, hx with
    | [y], _, hx =>
      cases hx
      exact ⟨v, by simp [hv], hrel⟩
  | [a, b], _, hl, get =>
    obtain ⟨x, hx, hra⟩ := get 0 a rfl
    obtain ⟨y, hy, hrb⟩ := get 1 b rfl
    obtain ⟨v, hv, hrel⟩ := semR_run h hra
    obtain ⟨u, hu, hrel'⟩ := semR_run h hrb
    match xs, hl, hx, hy with
    | [_, _], _, hx, hy =>
      cases hx; cases hy
      refine ⟨.tuple #[v, u], by simp [hv, hu], .tup _ _ rfl (fun i x v hx hv => ?_)⟩
      rcases i with _ | _ | i <;> simp at hx hv
      · obtain rfl := hx; obtain rfl := hv; exact hrel
      · obtain rfl := hx; obtain rfl := hv; exact hrel'
  | [a, b, c], _, hl, get =>
    obtain ⟨x, hx, hra⟩ := get 0 a rfl
    obtain ⟨y, hy, hrb⟩ := get 1 b rfl
    obtain ⟨z, hz, hrc⟩ := get 2 c rfl
    obtain ⟨v, hv, hrel⟩ := semR_run h hra
    obtain ⟨u, hu, hrel'⟩ := semR_run h hrb
    obtain ⟨t, ht, hrel''⟩ := semR_run h hrc
    match xs, hl, hx, hy, hz with
    | [_, _, _], _, hx, hy, hz =>
      cases hx; cases hy; cases hz
      refine ⟨.tuple #[v, u, t], by simp [hv, hu, ht], .tup _ _ rfl (fun i x v hx hv => ?_)⟩
      rcases i with _ | _ | _ | i <;> simp at hx hv
      · obtain rfl := hx; obtain rfl := hv; exact hrel
      · obtain rfl := hx; obtain rfl := hv; exact hrel'
      · obtain rfl := hx; obtain rfl := hv; exact hrel''
  | [a, b, c, d], _, hl, get =>
    obtain ⟨x, hx, hra⟩ := get 0 a rfl
    obtain ⟨y, hy, hrb⟩ := get 1 b rfl
    obtain ⟨z, hz, hrc⟩ := get 2 c rfl
    obtain ⟨q, hq, hrd⟩ := get 3 d rfl
    obtain ⟨v, hv, hrel⟩ := semR_run h hra
    obtain ⟨u, hu, hrel'⟩ := semR_run h hrb
    obtain ⟨t, ht, hrel''⟩ := semR_run h hrc
    obtain ⟨s, hs, hrel'''⟩ := semR_run h hrd
    match xs, hl, hx, hy, hz, hq with
    | [_, _, _, _], _, hx, hy, hz, hq =>
      cases hx; cases hy; cases hz; cases hq
      refine ⟨.tuple #[v, u, t, s], by simp [hv, hu, ht, hs], .tup _ _ rfl (fun i x v hx hv => ?_)⟩
      rcases i with _ | _ | _ | _ | i <;> simp at hx hv
      · obtain rfl := hx; obtain rfl := hv; exact hrel
      · obtain rfl := hx; obtain rfl := hv; exact hrel'
      · obtain rfl := hx; obtain rfl := hv; exact hrel''
      · obtain rfl := hx; obtain rfl := hv; exact hrel'''

end
end Go.Ab
/- A function's contract out of the walk of its body; states that tell less. -/
namespace Go.Ab
open Go.RowKit

section
variable {P : Program} {base : Own} {out : Own} {st st' : St} {μ : Pl} {tmps : Array Value} {w w' : World}

theorem leaves_marks {F : Fence} {n B : Nat} {fn : Func} {R : Ending → World → Prop} (Φ : World → Prop) (hΦ : ∀ (w w' : World) r, B ≤ r → ¬ out r → Other r w w' → Φ w → Φ w')
    (hend : ∀ w, Φ w → ∃ v, (results fn tmps).run P w = .ok v w ∧ R (.returned v) w) :
    ∀ (rs : List Nat) (w : World), rs.Nodup → (∀ r ∈ rs, B ≤ r ∧ ¬ out r ∧ w.heap[r]? = some (.deferred (some []))) → Φ w →
      LeavesInM F n P fn tmps R (rs.map fun r => { target := .collected r, args := #[] }) .returning w
  | [], w, _, _, h => hend w h
  | r :: rs, w, hn, hd, h => by
    have h1 := hd r (by simp)
    have hlt : r < w.heap.size := (Array.getElem?_eq_some_iff.1 h1.2.2).1
    have ho : Other r w (w.putObj r (.deferred none)) :=
      ⟨⟨rfl, rfl, rfl, by simp [World.putObj], fun k hk => World.putObj_heap_other hk⟩, fun cs ty x e => by rw [h1.2.2] at e; cases e⟩
    refine ⟨by simp, .inl ⟨r, _, rfl, run_takeDeferred h1.2.2, ?_⟩⟩
    rw [List.nodup_cons] at hn
    refine leaves_marks Φ hΦ hend rs _ hn.2 (fun q hq => ⟨(hd q (by simp [hq])).1, (hd q (by simp [hq])).2.1, ?_⟩) (hΦ _ _ r h1.1 h1.2.1 ho h)
    have hqr : q ≠ r := fun e => hn.1 (e ▸ hq)
    rw [World.putObj_heap_other hqr]
    exact (hd q (by simp [hq])).2.2

/-- The state in which a function begins. -/
def St.start (args : List DV) (nt M : Nat) : St := { t := args.map .d ++ List.replicate (nt - args.length) .undef, m := List.replicate M none }

theorem start_rel {own : Own} {args : List DV} {vs : Array Value} {nt : Nat} (M : Nat) (hown : ∀ b, own b → b < w.heap.size) (hd : DRels w own args vs) :
    StRel (ltU w.heap.size) own (St.start args nt M) (fun _ => none) (vs ++ Array.replicate (nt - vs.size) undef) w := by
  have hO : ∀ b, ownOf own (fun _ => none) b → own b := by rintro b (h | ⟨n, z, l, c, h⟩); exact h; cases h
  refine ⟨by simp [St.start, hd.1], fun i x v hx hv => ?_, ⟨fun n b hb => ?_, fun n hn => (by cases hn), fun n k b z l c z' l' c' h => (by cases h), fun n b z l c h => (by cases h)⟩, hown, fun _ h => h⟩
  · by_cases hi : i < args.length
    · rw [St.start, List.getElem?_append_left (by simpa using hi)] at hx
      rw [Array.getElem?_append_left (by rw [← hd.1]; exact hi)] at hv
      simp only [List.getElem?_map, Option.map_eq_some_iff] at hx
      obtain ⟨d, hx, rfl⟩ := hx
      exact .d ((hd.2 i d v hx hv).goes fun b o u h1 h2 => ⟨fun hc => h1 (hO b hc), h2⟩)
    · rw [St.start, List.getElem?_append_right (by simpa using Nat.le_of_not_lt hi)] at hx
      rw [List.getElem?_replicate] at hx
      split at hx
      · cases hx; exact .undef v
      · cases hx
  · simp only [St.start, List.getElem?_replicate] at hb
    split at hb <;> cases hb

/-- How a body may end. -/
def endsOk : Exit → Prop
  | .normal | .ret => True
  | _ => False

/-- What a body's walk must come to, for the function to return r. -/
def retD (P : Program) (rs : Array ResultVar) (r : DV) (e : Exit) (_ : Option Nat) (s : St) : Prop :=
  endsOk e ∧ bindK (resultsA P s rs) fun x => reify s.m deep x = some r

/-- .. for the function to return a slice of its own. -/
def retS (P : Program) (rs : Array ResultVar) (e z : Nat) (rows : List (List DV)) (ex : Exit) (_ : Option Nat) (s : St) : Prop :=
  endsOk ex ∧ bindK (resultsA P s rs) fun x => match x with
    | .own n => s.m[n]? = some (some (.arr e z rows))
    | .nil => rows = []
    | _ => False

/-- A walk of the body from any state that stands for the frame in which the function begins. -/
theorem calls_of_walkSt {f : FuncId} {fn : Func} {c : Code} (hf : P.funcs[f]? = some fn) (hb : fn.body = some c) (h4 : fn.results.size ≤ 4) {st0 : St} {own : Own} {μ0 : Pl} {vs : Array Value}
    {Q : Exit → Option Nat → St → Prop} {J : Env} (hst0 : StRel base own st0 μ0 (vs ++ Array.replicate (fn.ntmps - vs.size) undef) w) (hw : Walk P none 0 J c (some 0) st0 Q)
    (hO : EnvOk w.heap.size J) (hJ : ∀ w', BelowU base w w' → J (some 0) base own w')
    {R : Ending → World → Prop} (hQ : ∀ e k s, Q e k s → endsOk e ∧ ∃ x, resultsA P s fn.results = some x ∧ ∀ base' out' μ tmps v w', StRel base' out' s μ tmps w' → AVRel w' (ownOf out' μ) μ x v → J k base' out' w' →
      Stays w (ownOf own μ0) w' (ownOf out' μ) → Same (dsts c) (vs ++ Array.replicate (fn.ntmps - vs.size) undef) tmps → R (.returned v) w') :
    Calls P f vs w R := by
  refine (callsIn_wide (n := 0)).1 ?_
  change CallsIn (fence none) 0 P f vs w R
  refine callsIn_of_wp_marks hf hb trivial ?_
  refine wpIn_mono (hw w.heap.size base own _ _ w [] hO hst0 hJ (.nil (Nat.le_refl _))) ?_
  rintro e a w' ⟨k', st', b, o, μ, hst, hJ', ⟨_, rs, hds, hnd, hmk⟩, hstay, hsame, hq⟩
  obtain ⟨hend, x, hx, hR⟩ := hQ e k' st' hq
  have fin : LeavesInM (fence none) 0 P fn a.tmps R a.defers .returning w' := by
    rw [hds]
    refine leaves_marks (B := w.heap.size) (out := ownOf o μ) (fun W => StRel b o st' μ a.tmps W ∧ J k' b o W ∧ Stays w (ownOf own μ0) W (ownOf o μ))
      (fun w1 w2 r hr hno ho ⟨h1, h2, h3⟩ => ⟨h1.other ho, hO k' b o w1 w2 r hr (fun hc => hno (.inl hc)) ho h2, by rw [ho.wrote.size]; exact h3.1, fun q hq hno' => ⟨(ho.wrote.block q (by omega)).trans (h3.2 q hq hno').1, (h3.2 q hq hno').2⟩⟩)
      (fun W ⟨h1, h2, h3⟩ => ?_) rs w' hnd hmk ⟨hst, hJ' w' (.refl _ _), hstay⟩
    obtain ⟨v, hv, hrel⟩ := results_sound h1 hx h4
    exact ⟨v, hv, hR b o μ a.tmps v W h1 hrel h2 h3 hsame⟩
  cases e with
  | normal => exact fin
  | ret => exact fin
  | _ => exact hend.elim

theorem calls_of_walkJ {f : FuncId} {fn : Func} {c : Code} {args : List DV} (M : Nat) (hf : P.funcs[f]? = some fn) (hb : fn.body = some c) (h4 : fn.results.size ≤ 4)
    {Q : Exit → Option Nat → St → Prop} {J : Env} (hw : Walk P none 0 J c (some 0) (St.start args fn.ntmps M) Q) {own : Own} {vs : Array Value} (hown : ∀ b, own b → b < w.heap.size) (hd : DRels w own args vs)
    (hO : EnvOk w.heap.size J) (hJ : ∀ w', Below w.heap.size w w' → J (some 0) (ltU w.heap.size) own w')
    {R : Ending → World → Prop} (hQ : ∀ e k s, Q e k s → endsOk e ∧ ∃ x, resultsA P s fn.results = some x ∧ ∀ base' out' μ tmps v w', StRel base' out' s μ tmps w' → AVRel w' (ownOf out' μ) μ x v → J k base' out' w' → R (.returned v) w') :
    Calls P f vs w R :=
  calls_of_walkSt hf hb h4 (start_rel M hown hd) hw hO (fun w' h => hJ w' h.to) fun e k s hq =>
    let ⟨h1, x, h2, h3⟩ := hQ e k s hq
    ⟨h1, x, h2, fun b o μ tmps v w' q1 q2 q3 _ _ => h3 b o μ tmps v w' q1 q2 q3⟩

theorem calls_of_walk {f : FuncId} {fn : Func} {c : Code} {args : List DV} (M : Nat) (hf : P.funcs[f]? = some fn) (hb : fn.body = some c) (h4 : fn.results.size ≤ 4)
    {Q : Exit → Option Nat → St → Prop} (hw : ∀ J, Walk P none 0 J c (some 0) (St.start args fn.ntmps M) Q) {own : Own} {vs : Array Value} (hown : ∀ b, own b → b < w.heap.size) (hd : DRels w own args vs)
    {R : Ending → World → Prop} (hQ : ∀ e k s, Q e k s → endsOk e ∧ ∃ x, resultsA P s fn.results = some x ∧ ∀ μ tmps v w', StRel (ltU w.heap.size) own s μ tmps w' → AVRel w' (ownOf own μ) μ x v → Below w.heap.size w w' → R (.returned v) w') :
    Calls P f vs w R := by
  refine calls_of_walkJ M hf hb h4 (hw (fun _ b o w' => b = ltU w.heap.size ∧ o = own ∧ Below w.heap.size w w')) hown hd (fun k b o w1 w2 r hr _ ho ⟨h1, h2, h3⟩ => ⟨h1, h2, h3.trans (ho.wrote.below (base := ltU w.heap.size) (Nat.not_lt.2 hr)).to⟩) (fun w' hB => ⟨rfl, rfl, hB⟩) fun e k s hq => ?_
  obtain ⟨h1, x, h2, h3⟩ := hQ e k s hq
  refine ⟨h1, x, h2, ?_⟩
  rintro b o μ tmps v w' hst hv ⟨rfl, rfl, hB⟩
  exact h3 μ tmps v w' hst hv hB

/-- A function's contract. -/
theorem fn_of_walk {f : FuncId} {fn : Func} {c : Code} {args : List DV} {r : DV} (M : Nat) (he : ∀ args w, (callFunc f args).run P w = .ok (.enter f args) w) (hf : P.funcs[f]? = some fn) (hb : fn.body = some c) (h4 : fn.results.size ≤ 4)
    (hw : ∀ J, Walk P none 0 J c (some 0) (St.start args fn.ntmps M) (retD P fn.results r)) : Fn P f args r := by
  refine ⟨he, fun w own vs hown hd => calls_of_walk M hf hb h4 hw hown hd fun e k s ⟨h1, x, h2, h3⟩ => ⟨h1, x, h2, fun μ tmps v w' hst hv hB => ⟨v, rfl, ?_, hB⟩⟩⟩
  refine reify_sound hst.mem own (fun b hb => .inl hb) (fun _ => True) (fun n b z l c _ hb hc => ?_) deep x v r hv h3 (fun _ _ => trivial) (.inl fun _ _ _ _ _ _ => trivial)
  exact (hst.mem.base n b z l c hb).2.2 hc

theorem fnS_of_walk {f : FuncId} {fn : Func} {c : Code} {args : List DV} {e z : Nat} {rows : List (List DV)} (M : Nat) (he : ∀ args w, (callFunc f args).run P w = .ok (.enter f args) w) (hf : P.funcs[f]? = some fn) (hb : fn.body = some c) (h4 : fn.results.size ≤ 4)
    (hw : ∀ J, Walk P none 0 J c (some 0) (St.start args fn.ntmps M) (retS P fn.results e z rows)) : FnS P f args e z rows := by
  refine ⟨he, fun w own vs hown hd => calls_of_walk M hf hb h4 hw hown hd fun ex k s ⟨h1, x, h2, h3⟩ => ⟨h1, x, h2, fun μ tmps v w' hst hv hB => ?_⟩⟩
  have hlow : ∀ b, own b → b < w.heap.size := hst.out
  dsimp only at h3
  split at h3
  · rename_i n
    have hsub : ∀ L, μ n = some L → ∀ b, ownOf own (fun k => if k = 0 then some L else none) b → ownOf own μ b := by
      rintro L hL b (hb | ⟨k, z, l, c, hb⟩)
      · exact .inl hb
      · by_cases hk : k = 0
        · subst hk; simp at hb; subst hb; exact .inr ⟨n, z, l, c, hL⟩
        · simp [hk] at hb
    rcases hst.mem.arr h3 with ⟨h4, rfl⟩ | ⟨b, cap, cs, h4, h5, h6, h7, h8, h9, h10⟩
    · refine ⟨v, fun k => if k = 0 then some .none0 else none, rfl, ?_, ⟨fun k b hk => ?_, fun k hk => ?_, fun a k b z l c z' l' c' ha => ?_, fun k b z l c hk => ?_⟩, hB⟩
      · rcases inv_own hv with ⟨_, rfl⟩ | ⟨b, z, l, c, hμ, _⟩
        · exact .ownNil rfl
        · rw [h4] at hμ; cases hμ
      · cases k with
        | zero => cases hk; exact .inl ⟨rfl, rfl⟩
        | succ k => simp at hk
      · by_cases hk0 : k = 0
        · subst hk0; exact ⟨_, rfl⟩
        · simp [hk0] at hk
      · by_cases h0 : a = 0 <;> simp [h0] at ha
      · by_cases h0 : k = 0 <;> simp [h0] at hk
    · refine ⟨v, fun k => if k = 0 then some (.at b z rows.length cap) else none, rfl, ?_, ⟨fun k bl hk => ?_, fun k hk => ?_, fun a k b1 z l c z' l' c' ha hk => ?_, fun k b z l c hk => ?_⟩, hB⟩
      · rcases inv_own hv with ⟨hμ, _⟩ | ⟨b2, z2, l2, c2, hμ, rfl⟩
        · rw [h4] at hμ; cases hμ
        · rw [h4] at hμ; cases hμ; exact .own (b := b) (z := z) (n := 0) (by simp)
      · cases k with
        | zero =>
          cases hk
          refine .inr ⟨b, cap, cs, rfl, h5, h6, h7, h8, h9, fun i r j d hi hj => ?_⟩
          obtain ⟨u, p1, p2, p3⟩ := h10 i r j d hi hj
          exact ⟨u, p1, p2, p3.goes fun b o u h1 h2 => ⟨fun hc => h1 (hsub _ h4 b hc), h2⟩⟩
        | succ k => simp at hk
      · by_cases hk0 : k = 0
        · subst hk0; exact ⟨_, rfl⟩
        · simp [hk0] at hk
      · by_cases h0 : a = 0
        · by_cases h1 : k = 0
          · rw [h0, h1]
          · simp [h1] at hk
        · simp [h0] at ha
      · by_cases h0 : k = 0
        · simp [h0] at hk
          obtain ⟨rfl, rfl, rfl, rfl⟩ := hk
          exact hst.mem.base n _ _ _ _ h4
        · simp [h0] at hk
  · subst h3
    refine ⟨v, fun k => if k = 0 then some .none0 else none, rfl, ?_, ⟨fun k b hk => ?_, fun k hk => ?_, fun a k b z l c z' l' c' ha => ?_, fun k b z l c hk => ?_⟩, hB⟩
    · rw [inv_nil hv]; exact .ownNil rfl
    · cases k with
      | zero => cases hk; exact .inl ⟨rfl, rfl⟩
      | succ k => simp at hk
    · by_cases hk0 : k = 0
      · subst hk0; exact ⟨_, rfl⟩
      · simp [hk0] at hk
    · by_cases h0 : a = 0 <;> simp [h0] at ha
    · by_cases h0 : k = 0 <;> simp [h0] at hk
  · exact h3.elim

/-! ### States that tell less -/

def AV.less (news : List Nat) (x y : AV) : Prop := y = .undef ∨ x = y ∨ (x = .nil ∧ ∃ n ∈ news, y = .own n)

def lessT (news : List Nat) : List AV → List AV → Prop
  | [], [] => True
  | x :: xs, y :: ys => AV.less news x y ∧ lessT news xs ys
  | _, _ => False

/-- One block: 'i': its name. -/
def lessB (news : List Nat) (i : Nat) : Option Blk → Option Blk → Prop
  | x, none => i ∉ news ∨ x = x
  | some (.box r), some (.box r') => i ∉ news ∧ lessT news r r'
  | some (.arr e z rows), some (.arr e' z' rows') => i ∉ news ∧ e = e' ∧ z = z' ∧ rows = rows'
  | none, some (.arr _ _ rows) => i ∈ news ∧ rows = []
  | _, _ => False

def lessM (news : List Nat) : Nat → List (Option Blk) → List (Option Blk) → Prop
  | _, [], [] => True
  | i, x :: xs, y :: ys => lessB news i x y ∧ lessM news (i + 1) xs ys
  | _, _, _ => False

def liveB (m : List (Option Blk)) (x : AV) : Bool := x.refs.all fun n => match (m[n]? : Option (Option Blk)) with
  | some (some _) => true
  | _ => false

def liveM (m : List (Option Blk)) : List (Option Blk) → Bool
  | [] => true
  | some (.box r) :: l => r.all (liveB m) && liveM m l
  | _ :: l => liveM m l

end
end Go.Ab
/- States that tell less: soundness; the set of rules that the walk is reckoned by. -/
namespace Go.Ab
open Go.RowKit

section
variable {P : Program} {base : Own} {out : Own} {st st' : St} {μ : Pl} {tmps : Array Value} {w w' : World}

theorem lessT_len {news : List Nat} : ∀ {xs ys : List AV}, lessT news xs ys → xs.length = ys.length
  | [], [], _ => rfl
  | _ :: _, _ :: _, h => by simp [lessT_len h.2]
  | [], _ :: _, h => h.elim
  | _ :: _, [], h => h.elim

theorem lessT_get {news : List Nat} : ∀ {xs ys : List AV}, lessT news xs ys → ∀ {i : Nat} {y : AV}, ys[i]? = some y → ∃ x, xs[i]? = some x ∧ AV.less news x y
  | [], [], _, i, y, hy => by simp at hy
  | x :: xs, y' :: ys, h, i, y, hy => by
    cases i with
    | zero => simp at hy; subst hy; exact ⟨x, rfl, h.1⟩
    | succ i => simp at hy ⊢; exact lessT_get h.2 hy
  | [], _ :: _, h, _, _, _ => h.elim
  | _ :: _, [], h, _, _, _ => h.elim

theorem lessM_get {news : List Nat} : ∀ {xs ys : List (Option Blk)} {k : Nat}, lessM news k xs ys → ∀ {i : Nat} {y : Option Blk}, ys[i]? = some y → ∃ x, xs[i]? = some x ∧ lessB news (k + i) x y
  | [], [], _, _, i, y, hy => by simp at hy
  | x :: xs, y' :: ys, k, h, i, y, hy => by
    cases i with
    | zero => simp at hy; subst hy; exact ⟨x, rfl, h.1⟩
    | succ i =>
      simp at hy ⊢
      obtain ⟨x, h1, h2⟩ := lessM_get h.2 hy
      exact ⟨x, h1, by rw [show k + (i + 1) = k + 1 + i by omega]; exact h2⟩
  | [], _ :: _, _, h, _, _, _ => h.elim
  | _ :: _, [], _, h, _, _, _ => h.elim

/-- The names that are placed in a state that tells less. -/
def Pl.less (μ : Pl) (news : List Nat) (m' : List (Option Blk)) : Pl := fun n => match (m'[n]? : Option (Option Blk)) with
  | some (some _) => if n ∈ news then some .none0 else μ n
  | _ => none

theorem liveM_get {r : List AV} : ∀ (l m : List (Option Blk)) (n : Nat), liveM m l = true → l[n]? = some (some (Blk.box r)) → ∀ x ∈ r, liveB m x = true
  | [], _, n, _, hn => by simp at hn
  | none :: l, m, n, hl, hn => by
    cases n with
    | zero => simp at hn
    | succ n => simp at hn; exact liveM_get l m n (by simpa [liveM] using hl) hn
  | some (.arr _ _ _) :: l, m, n, hl, hn => by
    cases n with
    | zero => simp at hn
    | succ n => simp at hn; exact liveM_get l m n (by simpa [liveM] using hl) hn
  | some (.box r') :: l, m, n, hl, hn => by
    simp only [liveM, Bool.and_eq_true, List.all_eq_true] at hl
    cases n with
    | zero => simp at hn; subst hn; exact hl.1
    | succ n => simp at hn; exact liveM_get l m n hl.2 hn

theorem weak_of (news : List Nat) (h1 : lessT news st.t st'.t) (h2 : lessM news 0 st.m st'.m) (h3 : st'.t.all (liveB st'.m) = true) (h4 : liveM st'.m st'.m = true) : Weak st st' := by
  intro base out μ tmps w h
  have hsub : ∀ n L, μ.less news st'.m n = some L → (n ∈ news ∧ L = .none0) ∨ (n ∉ news ∧ μ n = some L) := by
    intro n L hn
    unfold Pl.less at hn
    split at hn
    · split at hn
      · rename_i h5; cases hn; exact .inl ⟨h5, rfl⟩
      · rename_i h5; exact .inr ⟨h5, hn⟩
    · cases hn
  have hown : ∀ b, ownOf out (μ.less news st'.m) b → ownOf out μ b := by
    rintro b (hb | ⟨n, z, l, c, hb⟩)
    · exact .inl hb
    · rcases hsub n _ hb with ⟨_, h5⟩ | ⟨_, h5⟩
      · cases h5
      · exact .inr ⟨n, z, l, c, h5⟩
  have hg : Goes w (ownOf out μ) w (ownOf out (μ.less news st'.m)) := fun b o v h5 h6 => ⟨fun hc => h5 (hown b hc), h6⟩
  -- a name that lives
  have hlive : ∀ n b, st'.m[n]? = some (some b) → μ.less news st'.m n = if n ∈ news then some .none0 else μ n := fun n b hn => by simp only [Pl.less, hn]
  have hnew : ∀ n b, st'.m[n]? = some (some b) → n ∈ news → ∃ e z, b = .arr e z [] := by
    intro n b hn hm
    obtain ⟨x, hx, hl⟩ := lessM_get h2 hn
    simp only [Nat.zero_add] at hl
    cases b with
    | box r =>
      rcases x with _ | x
      · exact hl.elim
      · cases x with
        | box r' => exact absurd hm hl.1
        | arr => exact hl.elim
    | arr e z rows =>
      rcases x with _ | x
      · obtain ⟨_, rfl⟩ := hl; exact ⟨e, z, rfl⟩
      · cases x with
        | box r' => exact hl.elim
        | arr => exact absurd hm hl.1
  have hold : ∀ n b, st'.m[n]? = some (some b) → n ∉ news → ∃ b0, st.m[n]? = some (some b0) ∧ (b = b0 ∨ ∃ r r', b0 = .box r ∧ b = .box r' ∧ lessT news r r') := by
    intro n b hn hm
    obtain ⟨x, hx, hl⟩ := lessM_get h2 hn
    simp only [Nat.zero_add] at hl
    cases b with
    | box r =>
      rcases x with _ | x
      · exact hl.elim
      · cases x with
        | box r' => exact ⟨_, hx, .inr ⟨r', r, rfl, rfl, hl.2⟩⟩
        | arr => exact hl.elim
    | arr e z rows =>
      rcases x with _ | x
      · exact absurd hl.1 hm
      · cases x with
        | box r' => exact hl.elim
        | arr e' z' rows' =>
          obtain ⟨_, rfl, rfl, rfl⟩ := hl
          exact ⟨_, hx, .inl rfl⟩
  have hval : ∀ x y v, AV.less news x y → liveB st'.m y = true → AVRel w (ownOf out μ) μ x v → AVRel w (ownOf out (μ.less news st'.m)) (μ.less news st'.m) y v := by
    intro x y v hl hlv hr
    rcases hl with rfl | rfl | ⟨rfl, n, hn, rfl⟩
    · exact .undef v
    · refine hr.goes hg fun n hn hs => ?_
      have h5 := List.all_eq_true.1 hlv n hn
      split at h5
      · rename_i b hb
        rw [hlive n b hb]
        split
        · rename_i hm
          exfalso
          obtain ⟨x, hx, hlb⟩ := lessM_get h2 hb
          obtain ⟨e, z, rfl⟩ := hnew n b hb hm
          simp only [Nat.zero_add] at hlb
          rcases x with _ | x
          · have := notPlaced h.mem hx
            rw [this] at hs; cases hs
          · cases x with
            | box r' => exact hlb
            | arr => exact hlb.1 hm
        · rfl
      · cases h5
    · have h5 := List.all_eq_true.1 hlv n (by simp [AV.refs])
      split at h5
      · rename_i b hb
        rw [inv_nil hr]
        exact .ownNil (by rw [hlive n b hb, if_pos hn])
      · cases h5
  refine ⟨μ.less news st'.m, ⟨by rw [h.size, lessT_len h1], fun i y v hy hv => ?_, ⟨fun n b hn => ?_, fun n hn => ?_, fun n k b z l c z' l' c' ha hb => ?_, fun n b z l c hb => ?_⟩, h.out, h.le⟩, hown⟩
  · obtain ⟨x, hx, hl⟩ := lessT_get h1 hy
    exact hval x y v hl (List.all_eq_true.1 h3 y (List.mem_of_getElem? hy)) (h.tmp i x v hx hv)
  · by_cases hm : n ∈ news
    · obtain ⟨e, z, rfl⟩ := hnew n b hn hm
      exact .inl ⟨by rw [hlive n _ hn, if_pos hm], rfl⟩
    · obtain ⟨b0, hb0, hb⟩ := hold n b hn hm
      have hμn : μ.less news st'.m n = μ n := by rw [hlive n _ hn, if_neg hm]
      have hr := h.mem.blk n b0 hb0
      rcases hb with rfl | ⟨r, r', rfl, rfl, hl⟩
      · cases b with
        | box row =>
          -- every value lives: the row is its own
          obtain ⟨bb, cs, ty, p1, p2, p3, p4⟩ := hr
          have hlv : ∀ x ∈ row, liveB st'.m x = true := liveM_get _ _ n h4 hn
          exact ⟨bb, cs, ty, by rw [hμn]; exact p1, p2, p3, fun j x v hx hv => ⟨(p4 j x v hx hv).1, hval x x v (.inr (.inl rfl)) (hlv x (List.mem_of_getElem? hx)) (p4 j x v hx hv).2⟩⟩
        | arr e z rows =>
          rcases hr with ⟨p1, p2⟩ | ⟨bb, cap, cs, p1, p2, p3, p4, p5, p6, p7⟩
          · exact .inl ⟨by rw [hμn]; exact p1, p2⟩
          · exact .inr ⟨bb, cap, cs, by rw [hμn]; exact p1, p2, p3, p4, p5, p6, fun i r j d hi hj => let ⟨v, q1, q2, q3⟩ := p7 i r j d hi hj; ⟨v, q1, q2, q3.goes hg⟩⟩
      · obtain ⟨bb, cs, ty, p1, p2, p3, p4⟩ := hr
        have hlv : ∀ x ∈ r', liveB st'.m x = true := liveM_get _ _ n h4 hn
        refine ⟨bb, cs, ty, by rw [hμn]; exact p1, p2, by rw [← lessT_len hl]; exact p3, fun j y v hy hv => ?_⟩
        obtain ⟨x, hx, hxy⟩ := lessT_get hl hy
        exact ⟨(p4 j x v hx hv).1, hval x y v hxy (hlv y (List.mem_of_getElem? hy)) (p4 j x v hx hv).2⟩
  · unfold Pl.less at hn
    split at hn
    · rename_i b hb; exact ⟨b, hb⟩
    · cases hn
  · rcases hsub n _ ha with ⟨_, h5⟩ | ⟨_, h5⟩
    · cases h5
    · rcases hsub k _ hb with ⟨_, h6⟩ | ⟨_, h6⟩
      · cases h6
      · exact h.mem.inj n k b z l c z' l' c' h5 h6
  · rcases hsub n _ hb with ⟨_, h5⟩ | ⟨_, h5⟩
    · cases h5
    · exact h.mem.base n b z l c h5

end
end Go.Ab
/- The set of rules by which a walk is reckoned. -/
namespace Go.Ab
open Go.RowKit

theorem getD_zero {α : Type} (x : α) (l : List α) (d : α) : (x :: l).getD 0 d = x := rfl
theorem getD_succ {α : Type} (x : α) (l : List α) (n : Nat) (d : α) : (x :: l).getD (n + 1) d = l.getD n d := rfl
theorem set_zero {α : Type} (x y : α) (l : List α) : (x :: l).set 0 y = y :: l := rfl
theorem set_succ {α : Type} (x y : α) (l : List α) (n : Nat) : (x :: l).set (n + 1) y = x :: l.set n y := rfl
theorem get_zero {α : Type} (x : α) (l : List α) : (x :: l)[0]? = some x := rfl
theorem get_succ {α : Type} (x : α) (l : List α) (n : Nat) : (x :: l)[n + 1]? = l[n]? := by simp
theorem bool_beq (b : Bool) : (b = true) = b := by simp
theorem toList_mk {α : Type} (l : List α) : (Array.mk l).toList = l := rfl

theorem stepK_mono {P : Program} {o : Oper} {s : St} {K K' : St → Prop} (h : stepK P o s K) (hK : ∀ s, K s → K' s) : stepK P o s K' := by
  unfold stepK at h ⊢
  split
  · rename_i hc
    rw [hc] at h
    obtain ⟨gx, h1, s', h2, h3⟩ := h
    exact ⟨gx, h1, s', h2, hK _ h3⟩
  · rename_i hc
    rw [hc] at h
    obtain ⟨s', h1, h2⟩ := h
    exact ⟨s', h1, hK _ h2⟩

theorem guardRun_yes (P : Program) (b : Bool) (o : Oper) (s : St) (R : St → Prop) : guardRun P (.d (.bool b)) b o s R = stepK P o s R := by
  apply propext
  constructor
  · intro h
    have := h R (fun _ h => h)
    simp only [guardedK, guardK, forall_const] at this
    exact this.1
  · intro h K' hK
    refine ⟨fun _ => stepK_mono h hK, fun e => ?_⟩
    cases b <;> cases e

theorem guardRun_no (P : Program) (b c : Bool) (hbc : c = !b) (o : Oper) (s : St) (R : St → Prop) : guardRun P (.d (.bool b)) c o s R = R (s.put o.dst .void) := by
  subst hbc
  apply propext
  constructor
  · intro h
    have := h R (fun _ h => h)
    exact this.2 (by simp)
  · intro h K' hK
    exact ⟨fun e => (by cases b <;> cases e), fun _ => hK _ h⟩

theorem guardRun_tt (P : Program) (o : Oper) (s : St) (R : St → Prop) : guardRun P (.d (.bool true)) true o s R = stepK P o s R := guardRun_yes P true o s R
theorem guardRun_ff (P : Program) (o : Oper) (s : St) (R : St → Prop) : guardRun P (.d (.bool false)) false o s R = stepK P o s R := guardRun_yes P false o s R
theorem guardRun_tf (P : Program) (o : Oper) (s : St) (R : St → Prop) : guardRun P (.d (.bool true)) false o s R = R (s.put o.dst .void) := guardRun_no P true false rfl o s R
theorem guardRun_ft (P : Program) (o : Oper) (s : St) (R : St → Prop) : guardRun P (.d (.bool false)) true o s R = R (s.put o.dst .void) := guardRun_no P false true rfl o s R
theorem guardRun_void (P : Program) (want : Bool) (o : Oper) (s : St) (R : St → Prop) : guardRun P .void want o s R = R (s.put o.dst .void) := by
  apply propext
  exact ⟨fun h => h R (fun _ h => h), fun h K' hK => hK _ h⟩

/-- A guard that is not known: two ways. -/
theorem guardRun_cases {P : Program} {b want : Bool} {o : Oper} {s : St} {R : St → Prop} (h1 : b = want → stepK P o s R) (h2 : b = !want → R (s.put o.dst .void)) : guardRun P (.d (.bool b)) want o s R :=
  fun _ hK => ⟨fun e => stepK_mono (h1 e) hK, fun e => hK _ (h2 e)⟩

theorem runK_nil (P : Program) (ops : Array Oper) (s : St) (K : St → Prop) : runK P ops [] s K = K s := rfl
theorem runK_cons (P : Program) (ops : Array Oper) (o : Oper) (os : List Oper) (x : AV) (t : List AV) (m : List (Option Blk)) (K : St → Prop) : runK P ops (o :: os) ⟨x :: t, m⟩ K = (dstOk o = true ∧ match guardT ops o with
    | none => False
    | some none => stepK P o ⟨x :: t, m⟩ fun s => runK P ops os s K
    | some (some (t', want)) => guardRun P ((⟨x :: t, m⟩ : St).ev (.tmp t')) want o ⟨x :: t, m⟩ fun s => runK P ops os s K) := rfl

theorem effK_mono {P : Program} {o : Oper} {s : St} {C C' : Eff → List Nat → Prop} (h : effK P o s C) (hC : ∀ e N, C e N → C' e N) : effK P o s C' := by
  unfold effK at h ⊢
  split
  · rename_i ho; simp only [ho] at h; obtain ⟨gx, h1, e, h2, h3⟩ := h; exact ⟨gx, h1, e, h2, hC _ _ h3⟩
  · rename_i ho; simp only [ho] at h; obtain ⟨d, h1, b, h2, h3, h4⟩ := h; rw [ho]; exact ⟨d, h1, b, h2, h3, hC _ _ h4⟩
  · rename_i ho; simp only [ho] at h; obtain ⟨d, h1, b, h2, h3, h4⟩ := h; rw [ho]; exact ⟨d, h1, b, h2, h3, hC _ _ h4⟩
  · rename_i ho; simp only [ho] at h; obtain ⟨d, h1, b, h2, h3, h4⟩ := h; rw [ho]; exact ⟨d, h1, b, h2, h3, hC _ _ h4⟩
  · rename_i ho; simp only [ho] at h; obtain ⟨d, h1, b, h2, h3, h4, h5⟩ := h
    refine ⟨d, h1, b, h2, h3, h4, ?_⟩
    split at h5
    · exact hC _ _ h5
    · exact h5.elim
  · rename_i ho; simp only [ho] at h
    obtain ⟨h1, h⟩ := h
    refine ⟨h1, ?_⟩
    split at h
    · split at h
      · obtain ⟨cs, h2, h3, row', h4, h5⟩ := h
        exact ⟨cs, h2, h3, row', h4, hC _ _ h5⟩
      · exact h.elim
    · split at h
      · obtain ⟨cs, h2, h3, r, h4, ds, h5, r', h6, h7, h8⟩ := h
        exact ⟨cs, h2, h3, r, h4, ds, h5, r', h6, h7, hC _ _ h8⟩
      · exact h.elim
    · exact h.elim
  · rename_i ho; simp only [ho] at h
    split at h
    · obtain ⟨r, h1, h2⟩ := h
      exact ⟨r, h1, hC _ _ h2⟩
    · exact h.elim
  · rename_i h1 h2 h3 h4 h5 h6 h7
    have h' : bindK (valOp P o.op s) fun x => C ⟨x, none⟩ (footV o.op s) := by
      split at h
      · rename_i ho; exact absurd ho (h1 _ _ _)
      · rename_i ho; exact absurd ho (h2 _)
      · rename_i ho; exact absurd ho (h3 _ _)
      · rename_i ho; exact absurd ho (h4 _ _ _)
      · rename_i ho; exact absurd ho (h5 _ _ _)
      · rename_i ho; exact absurd ho (h6 _ _ _)
      · rename_i ho; exact absurd ho (h7 _ _)
      · exact h
    obtain ⟨x, h7, h8⟩ := h'
    exact ⟨x, h7, hC _ _ h8⟩

theorem guardRunE_tt (P : Program) (o : Oper) (s : St) (R : Eff → List Nat → Prop) : guardRunE P (.d (.bool true)) true o s R = effK P o s R := by
  apply propext
  exact ⟨fun h => (h R (fun _ _ h => h)).1 rfl, fun h K' hK => ⟨fun _ => effK_mono h hK, fun e => (by cases e)⟩⟩
theorem guardRunE_ff (P : Program) (o : Oper) (s : St) (R : Eff → List Nat → Prop) : guardRunE P (.d (.bool false)) false o s R = effK P o s R := by
  apply propext
  exact ⟨fun h => (h R (fun _ _ h => h)).1 rfl, fun h K' hK => ⟨fun _ => effK_mono h hK, fun e => (by cases e)⟩⟩
theorem guardRunE_tf (P : Program) (o : Oper) (s : St) (R : Eff → List Nat → Prop) : guardRunE P (.d (.bool true)) false o s R = R ⟨.void, none⟩ [] := by
  apply propext
  exact ⟨fun h => (h R (fun _ _ h => h)).2 rfl, fun h K' hK => ⟨fun e => (by cases e), fun _ => hK _ _ h⟩⟩
theorem guardRunE_ft (P : Program) (o : Oper) (s : St) (R : Eff → List Nat → Prop) : guardRunE P (.d (.bool false)) true o s R = R ⟨.void, none⟩ [] := by
  apply propext
  exact ⟨fun h => (h R (fun _ _ h => h)).2 rfl, fun h K' hK => ⟨fun e => (by cases e), fun _ => hK _ _ h⟩⟩
theorem guardRunE_void (P : Program) (want : Bool) (o : Oper) (s : St) (R : Eff → List Nat → Prop) : guardRunE P .void want o s R = R ⟨.void, none⟩ [] := by
  apply propext
  exact ⟨fun h => h R (fun _ _ h => h), fun h K' hK => hK _ _ h⟩
theorem guardRunE_cases {P : Program} {b want : Bool} {o : Oper} {s : St} {R : Eff → List Nat → Prop} (h1 : b = want → effK P o s R) (h2 : b = !want → R ⟨.void, none⟩ []) : guardRunE P (.d (.bool b)) want o s R :=
  fun _ hK => ⟨fun e => effK_mono (h1 e) hK, fun e => hK _ _ (h2 e)⟩

theorem runD_nil (P : Program) (ops : Array Oper) (i : Nat) (acc : List Key) (s : St) (K : St → Prop) : runD P ops [] i acc s K = (pairsB ops (masks ops.toList []) acc.reverse = true ∧ K s) := rfl
def contD (P : Program) (ops : Array Oper) (os : List Oper) (i : Nat) (acc : List Key) (s : St) (dst : Option Tmp) (K : St → Prop) (e : Eff) (N : List Nat) : Prop := runD P ops os (i + 1) ((i, e.name, N) :: acc) (s.apply dst e) K
theorem runD_cons (P : Program) (ops : Array Oper) (o : Oper) (os : List Oper) (i : Nat) (acc : List Key) (x : AV) (t : List AV) (m : List (Option Blk)) (K : St → Prop) : runD P ops (o :: os) i acc ⟨x :: t, m⟩ K = (dstOk o = true ∧ match guardT ops o with
    | none => False
    | some none => effK P o ⟨x :: t, m⟩ (contD P ops os i acc ⟨x :: t, m⟩ o.dst K)
    | some (some (t', want)) => guardRunE P ((⟨x :: t, m⟩ : St).ev (.tmp t')) want o ⟨x :: t, m⟩ (contD P ops os i acc ⟨x :: t, m⟩ o.dst K)) := rfl

theorem minMax_max (k k' : IntKind) (x y : Int) : opMinMax true [.d (.int k x), .d (.int k' y)] = some (.d (.int k (max x y))) := by
  simp only [opMinMax, if_true, Option.some.injEq, AV.d.injEq, DV.int.injEq, true_and]; omega
theorem minMax_min (k k' : IntKind) (x y : Int) : opMinMax false [.d (.int k x), .d (.int k' y)] = some (.d (.int k (min x y))) := by
  simp only [opMinMax, Bool.false_eq_true, if_false, Option.some.injEq, AV.d.injEq, DV.int.injEq, true_and]; omega

theorem headIs_nil (z : Nat) : headIs z [] = true := rfl
theorem headIs_cons (z : Nat) (r : List DV) (l : List (List DV)) : headIs z (r :: l) = (r.length == z) := rfl
theorem intVal (n : Nat) : ((n : Int)).toNat = n := by simp
theorem natNonneg (n : Nat) : (0 ≤ (n : Int)) = True := by simp

attribute [go_sem] List.getElem?_toArray
attribute [go_sem] getD_zero getD_succ set_zero set_succ get_zero get_succ toList_mk intVal natNonneg
attribute [go_sem] guardRun_tt guardRun_ff guardRun_tf guardRun_ft guardRun_void runK_nil runK_cons guardRunE_tt guardRunE_ff guardRunE_tf guardRunE_ft guardRunE_void runD_nil runD_cons
attribute [go_sem] thenA blockA dstOk guardT stepK isCall stepOp valOp putV St.put St.ev cellOf constOf bindK_some bindK_none bindK_ite bindK_map
attribute [go_sem] callOf calleeOf opFieldAddr opLoad partOf partOfD opBin intOp shiftOp isPtr opPick pickA opUn opNilCheck opField opIndexAddr opExtract opLen opCopy dstOf elemsOf minMax_max minMax_min opBox opAlloc opStore splice AV.cells newOp addN nameOf St.fresh St.addBlk
attribute [go_sem] opBuild fillA opSlice boundsOf headIs_nil headIs_cons opConvert opMakeFunc opMakeSlice opBuildSlice opAppend rowOf rowsOf St.arrs AV.refsAll AV.refs AV.refs.AV.refss allSome reify leaf deep St.kill releaseAll St.release AV.sub AV.sub.AV.subs subMem Blk.sub snapLeaf
attribute [go_sem] contD contE contV effK St.apply Eff.name footV reachAll
attribute [go_sem] AV.one
attribute [go_sem] retD retS endsOk resultsA resA retA

end Go.Ab
/- The walk of a list of pieces of code, with rules that ask for no name. -/
namespace Go.Ab
open Go.RowKit

section
variable {P : Program} {rd : Option Nat} {n : Nat} {J : Env} {c x y : Code} {cs : List Code} {k : Option Nat} {st : St} {Q : Exit → Option Nat → St → Prop}

/-- Pieces of code, one behind the other. -/
def WalkL (P : Program) (rd : Option Nat) (n : Nat) (J : Env) : List Code → Option Nat → St → (Exit → Option Nat → St → Prop) → Prop
  | [], k, st, Q => Q .normal k st
  | c :: cs, k, st, Q => Walk P rd n J c k st (thenA (fun k s => WalkL P rd n J cs k s Q) Q)

theorem thenA_normal {K : Option Nat → St → Prop} (h : K k st) : thenA K Q .normal k st := h
theorem thenA_exit {K : Option Nat → St → Prop} {i : Nat} (h : Q (.exit i) k st) : thenA K Q (.exit i) k st := h
theorem thenA_ret {K : Option Nat → St → Prop} (h : Q .ret k st) : thenA K Q .ret k st := h
theorem blockA_here {i : Nat} (h : Q .normal k st) : blockA i Q (.exit i) k st := by simp [blockA, h]
theorem blockA_other {i j : Nat} (hne : (j == i) = false) (h : Q (.exit j) k st) : blockA i Q (.exit j) k st := by
  have : j ≠ i := by simpa using hne
  simp [blockA, this, h]
theorem blockA_normal {i : Nat} (h : Q .normal k st) : blockA i Q .normal k st := h
theorem blockA_ret {i : Nat} (h : Q .ret k st) : blockA i Q .ret k st := h

theorem walkL_one (h : WalkL P rd n J [c] k st Q) : Walk P rd n J c k st Q :=
  walk_mono h fun e k s hq => by cases e <;> exact hq

theorem walkL_nil (h : Q .normal k st) : WalkL P rd n J [] k st Q := h
theorem walkL_skip (h : WalkL P rd n J cs k st Q) : WalkL P rd n J (.skip :: cs) k st Q := walk_skip h
theorem walkL_label {l : Nat} (h : WalkL P rd n J cs k st Q) : WalkL P rd n J (.label l :: cs) k st Q := walk_label h
theorem walkL_exit {id : Nat} (h : Q (.exit id) k st) : WalkL P rd n J (.exit id :: cs) k st Q := walk_exit h
theorem walkL_ret (h : Q .ret k st) : WalkL P rd n J (.ret :: cs) k st Q := walk_ret h
theorem walkL_seq (h : WalkL P rd n J (x :: y :: cs) k st Q) : WalkL P rd n J (.seq x y :: cs) k st Q :=
  walk_seq (walk_mono h fun e k s hq => by cases e <;> exact hq)

theorem walkL_region {id : Nat} {ops : Array Oper} (h : ∀ K : St → Prop, (∀ s, WalkL P rd n J cs k s Q → K s) → runK P ops ops.toList st K) : WalkL P rd n J (.region id ops false :: cs) k st Q :=
  walk_region (h _ fun _ h => h)
theorem walkL_drawn {id : Nat} {ops : Array Oper} (hfol : P.follows .mixedOrders = true) (hback : backB ops = true) (h : ∀ K : St → Prop, (∀ s, WalkL P rd n J cs k s Q → K s) → runD P ops ops.toList 0 [] st K) : WalkL P rd n J (.region id ops true :: cs) k st Q :=
  walk_drawn hfol hback (h _ fun _ h => h)

theorem walkL_cond {o : Operand} {b : Bool} (hc : st.ev o = .d (.bool b)) (h1 : b = true → WalkL P rd n J (x :: cs) k st Q) (h2 : b = false → WalkL P rd n J (y :: cs) k st Q) : WalkL P rd n J (.cond o x y :: cs) k st Q :=
  walk_cond hc h1 h2
theorem walkL_true {o : Operand} (hc : st.ev o = .d (.bool true)) (h1 : WalkL P rd n J (x :: cs) k st Q) : WalkL P rd n J (.cond o x y :: cs) k st Q :=
  walk_cond hc (fun _ => h1) (fun h => by cases h)
theorem walkL_false {o : Operand} (hc : st.ev o = .d (.bool false)) (h1 : WalkL P rd n J (y :: cs) k st Q) : WalkL P rd n J (.cond o x y :: cs) k st Q :=
  walk_cond hc (fun h => by cases h) (fun _ => h1)

theorem walkL_block {id : Nat} (h : WalkL P rd n J [c] k st (blockA id (thenA (fun k s => WalkL P rd n J cs k s Q) Q))) : WalkL P rd n J (.block id c :: cs) k st Q :=
  walk_block (walkL_one h)

/-- Two ways that meet: what holds where they do. -/
theorem walkL_meet (M : Option Nat → St → Prop) (h : WalkL P rd n J [c] k st (thenA M Q)) (h' : ∀ k s, M k s → WalkL P rd n J cs k s Q) : WalkL P rd n J (c :: cs) k st Q :=
  walk_mono (walkL_one h) fun e k s hq => by cases e <;> first | exact h' _ _ hq | exact hq

theorem walkL_weak {st' : St} (hw : Weak st st') (h : WalkL P rd n J (c :: cs) k st' Q) : WalkL P rd n J (c :: cs) k st Q := walk_weak hw h

theorem walkL_loop {α : Type} (f : α → St) (I : α → Prop) (m : α → Nat) (a : α) (hw : Weak st (f a)) (h0 : I a)
    (h : ∀ a, I a → WalkL P rd n J [c] k (f a) (thenA (fun k' s => k' = k ∧ ∃ a', Weak s (f a') ∧ I a' ∧ m a' < m a) (thenA (fun k s => WalkL P rd n J cs k s Q) Q))) : WalkL P rd n J (.loop c :: cs) k st Q :=
  walk_loop f (fun k' a => k' = k ∧ I a) (fun _ a => m a) a hw ⟨rfl, h0⟩ fun k' a hI => by
    obtain ⟨rfl, hI⟩ := hI
    refine walk_mono (walkL_one (h a hI)) fun e k s hq => ?_
    cases e with
    | normal => obtain ⟨rfl, a', h1, h2, h3⟩ := hq; exact ⟨a', h1, ⟨rfl, h2⟩, h3⟩
    | _ => exact hq

end

/-- The state with all of these forgotten. -/
def wipeT : List Nat → List AV → List AV
  | [], t => t
  | d :: ds, t => wipeT ds (t.set d .undef)
def wipeM : List Nat → List (Option Blk) → List (Option Blk)
  | [], m => m
  | d :: ds, m => wipeM ds (m.set d none)
def setsT : List (Nat × AV) → List AV → List AV
  | [], t => t
  | (i, x) :: l, t => setsT l (t.set i x)
def setsM : List (Nat × Option Blk) → List (Option Blk) → List (Option Blk)
  | [], m => m
  | (i, x) :: l, m => setsM l (m.set i x)

def St.head (st : St) (ds : List Nat) (ts : List (Nat × AV)) (ms : List (Nat × Option Blk)) : St := { t := setsT ts (wipeT ds st.t), m := setsM ms (wipeM ds st.m) }

theorem walkL_loopS {P : Program} {rd : Option Nat} {n : Nat} {J : Env} {c : Code} {cs : List Code} {k : Option Nat} {st : St} {Q : Exit → Option Nat → St → Prop} {α : Type} (ts : α → List (Nat × AV)) (ms : α → List (Nat × Option Blk)) (I : α → Prop) (m : α → Nat) (a : α)
    (hw : Weak st (st.head (dsts c) (ts a) (ms a))) (h0 : I a)
    (h : ∀ a, I a → WalkL P rd n J [c] k (st.head (dsts c) (ts a) (ms a)) (thenA (fun k' s => k' = k ∧ ∃ a', Weak s (st.head (dsts c) (ts a') (ms a')) ∧ I a' ∧ m a' < m a) (thenA (fun k s => WalkL P rd n J cs k s Q) Q))) : WalkL P rd n J (.loop c :: cs) k st Q :=
  walkL_loop (fun a => st.head (dsts c) (ts a) (ms a)) I m a hw h0 h

/-- The same, where the phase turns too. -/
theorem walkL_loopK {P : Program} {rd : Option Nat} {n : Nat} {J : Env} {c : Code} {cs : List Code} {k : Option Nat} {st : St} {Q : Exit → Option Nat → St → Prop} {α : Type} (ts : α → List (Nat × AV)) (ms : α → List (Nat × Option Blk)) (I : Option Nat → α → Prop) (m : α → Nat) (a : α)
    (hw : Weak st (st.head (dsts c) (ts a) (ms a))) (h0 : I k a)
    (h : ∀ k a, I k a → WalkL P rd n J [c] k (st.head (dsts c) (ts a) (ms a)) (thenA (fun k' s => ∃ a', Weak s (st.head (dsts c) (ts a') (ms a')) ∧ I k' a' ∧ m a' < m a) (thenA (fun k s => WalkL P rd n J cs k s Q) Q))) : WalkL P rd n J (.loop c :: cs) k st Q :=
  walk_loop (fun a => st.head (dsts c) (ts a) (ms a)) I (fun _ a => m a) a hw h0 fun k' a hI => walk_mono (walkL_one (h k' a hI)) fun e k s hq => by cases e <;> exact hq

attribute [go_sem] opDsts dsts wipeT wipeM setsT setsM St.head

theorem fn_walk {P : Program} {f : FuncId} {fn : Func} {c : Code} {args : List DV} {r : DV} (M : Nat) (he : ∀ args w, (callFunc f args).run P w = .ok (.enter f args) w) (hf : P.funcs[f]? = some fn) (hb : fn.body = some c) (h4 : fn.results.size ≤ 4)
    (hw : ∀ J, WalkL P none 0 J [c] (some 0) (St.start args fn.ntmps M) (retD P fn.results r)) : Fn P f args r := fn_of_walk M he hf hb h4 fun J => walkL_one (hw J)

theorem fnS_walk {P : Program} {f : FuncId} {fn : Func} {c : Code} {args : List DV} {e z : Nat} {rows : List (List DV)} (M : Nat) (he : ∀ args w, (callFunc f args).run P w = .ok (.enter f args) w) (hf : P.funcs[f]? = some fn) (hb : fn.body = some c) (h4 : fn.results.size ≤ 4)
    (hw : ∀ J, WalkL P none 0 J [c] (some 0) (St.start args fn.ntmps M) (retS P fn.results e z rows)) : FnS P f args e z rows := fnS_of_walk M he hf hb h4 fun J => walkL_one (hw J)

end Go.Ab
/- Iterators: a function value that hands on its elements one by one. The iterator's own walk. -/
namespace Go.Ab
open Go.RowKit

/-- What an iterator's caller has to say: in a phase (how many elements have come; none: no more is wanted), with what is owned by others than the iterator. -/
abbrev Seen := Option Nat → Own → World → Prop

structure SeenOk (B : Nat) (J : Seen) : Prop where
  below : ∀ k o w w', J k o w → Below w.heap.size w w' → J k o w'
  other : ∀ k o w w' r, B ≤ r → ¬ o r → Other r w w' → J k o w → J k o w'
  lt : ∀ k o w, J k o w → ∀ b, o b → b < w.heap.size

/-- A call of yield takes the next element. -/
def Gives (P : Program) (l : Nat) (J : Seen) (items : List (List DV)) : Prop :=
  ∀ (m k : Nat) (o : Own) (w : World) (vals : Array Value) (row : List DV), items[k]? = some row → J (some k) o w → DRels w o row vals →
    YieldAt (fence none) m P l vals w fun e w' => ∃ b o', e = .returned (.bool b) ∧ J (if b then some (k + 1) else none) o' w' ∧ Stays w o w' o'

/-- The iterator f, with these values captured, hands on these elements, one by one, till no more is wanted. -/
def Iter (P : Program) (f : FuncId) (caps : List DV) (items : List (List DV)) : Prop := Enters P f ∧
  ∀ (l : Nat) (J : Seen) (w : World) (own : Own) (vs : Array Value), SeenOk w.heap.size J → Gives P l J items → (∀ b, own b → b < w.heap.size) → DRels w own caps vs → J (some 0) own w →
    Calls P f (#[.func (.yield l) #[] #[]] ++ vs) w fun e w' => ∃ v o', e = .returned v ∧ (J (some items.length) o' w' ∨ J none o' w')

/-- All that is owned is given up, and forgotten. -/
def dropT : List AV → List AV
  | [] => []
  | x :: xs => (match x.refs with
    | [] => x
    | _ => .undef) :: dropT xs
def dropM : List (Option Blk) → List (Option Blk)
  | [] => []
  | _ :: l => none :: dropM l
def St.drop (s : St) : St := { t := dropT s.t, m := dropM s.m }

def yieldOf (o : Oper) (s : St) : Option (Nat × List AV) := match o.op with
  | .call { callee := .value f, args, .. } => match s.ev f with
    | .d (.yld l) => some (l, args.toList.map s.ev)
    | _ => none
  | _ => none

def yieldK (l l' : Nat) (items : List (List DV)) (xs : List AV) (dst : Option Tmp) (k : Option Nat) (s : St) (K : Option Nat → St → Prop) : Prop :=
  l' = l ∧ ∃ kk row, k = some kk ∧ reifyAll s xs = some row ∧ items[kk]? = some row ∧ K (some (kk + 1)) (s.drop.put dst (.d (.bool true))) ∧ K none (s.drop.put dst (.d (.bool false)))

def stepY (P : Program) (l : Nat) (items : List (List DV)) (o : Oper) (k : Option Nat) (s : St) (K : Option Nat → St → Prop) : Prop := match yieldOf o s with
  | some lx => yieldK l lx.1 items lx.2 o.dst k s K
  | none => stepK P o s (K k)

def guardedY (P : Program) (l : Nat) (items : List (List DV)) (t : AV) (want : Bool) (o : Oper) (k : Option Nat) (s : St) (K : Option Nat → St → Prop) : Prop := guardK t want (stepY P l items o k s K) (K k (s.put o.dst .void))

def guardRunY (P : Program) (l : Nat) (items : List (List DV)) (t : AV) (want : Bool) (o : Oper) (k : Option Nat) (s : St) (R : Option Nat → St → Prop) : Prop := ∀ K' : Option Nat → St → Prop, (∀ k s, R k s → K' k s) → guardedY P l items t want o k s K'

def runY (P : Program) (l : Nat) (items : List (List DV)) (ops : Array Oper) : List Oper → Option Nat → St → (Option Nat → St → Prop) → Prop
  | [], k, s, K => K k s
  | o :: os, k, s, K => dstOk o = true ∧ match guardT ops o with
    | none => False
    | some none => stepY P l items o k s fun k s => runY P l items ops os k s K
    | some (some (t, want)) => guardRunY P l items (s.ev (.tmp t)) want o k s fun k s => runY P l items ops os k s K

section
variable {P : Program} {base : Own} {out : Own} {st st' : St} {μ : Pl} {tmps : Array Value} {w w' : World} {o : Oper} {ops : Array Oper} {n : Nat}

theorem dropT_get : ∀ {t : List AV} {i : Nat} {y : AV}, (dropT t)[i]? = some y → ∃ x, t[i]? = some x ∧ (y = .undef ∨ (y = x ∧ x.refs = []))
  | [], i, y, h => by simp [dropT] at h
  | x :: xs, i, y, h => by
    cases i with
    | zero =>
      simp only [dropT, List.getElem?_cons_zero, Option.some.injEq] at h
      refine ⟨x, rfl, ?_⟩
      split at h
      · rename_i hr; exact .inr ⟨h.symm, hr⟩
      · exact .inl h.symm
    | succ i => simp only [dropT, List.getElem?_cons_succ] at h ⊢; exact dropT_get h

theorem dropT_len : ∀ (t : List AV), (dropT t).length = t.length
  | [] => rfl
  | x :: xs => by simp [dropT, dropT_len xs]

theorem dropM_get : ∀ {m : List (Option Blk)} {i : Nat} {b : Blk}, (dropM m)[i]? ≠ some (some b)
  | [], i, b, h => by simp [dropM] at h
  | x :: xs, i, b, h => by
    cases i with
    | zero => simp [dropM] at h
    | succ i => simp only [dropM, List.getElem?_cons_succ] at h; exact dropM_get h

theorem inv_yld {own : Own} {l : Nat} {v : Value} (h : AVRel w own μ (.d (.yld l)) v) : v = .func (.yield l) #[] #[] := by have := h.d_inv; cases this; rfl

/-- A value that names nothing stays what it is. -/
theorem plain_goes {own own' : Own} {μ' : Pl} {x : AV} {v : Value} (h : AVRel w own μ x v) (hg : Goes w own w' own') (hr : x.refs = []) : AVRel w' own' μ' x v :=
  h.goes hg fun n hn _ => by rw [hr] at hn; cases hn

/-- Behind a yield. -/
theorem drop_rel (h : StRel base out st μ tmps w) {o' : Own} (hs : Stays w out w' o') (hlt : ∀ b, o' b → b < w'.heap.size) {dst : Option Tmp} {b : Bool} :
    StRel (ltU w'.heap.size) o' (st.drop.put dst (.d (.bool b))) (fun _ => none) (putT tmps dst (.bool b)) w' := by
  have hO : ∀ k, ownOf o' (fun _ => none) k → o' k := by rintro k (h | ⟨n, z, l, c, h⟩); exact h; cases h
  have hg : Goes w (ownOf out μ) w' (ownOf o' (fun _ => none)) := fun k q v h1 h2 => by
    obtain ⟨p1, p2⟩ := hs.goes k q v (fun hc => h1 (.inl hc)) h2
    exact ⟨fun hc => p1 (hO k hc), p2⟩
  refine StRel.put ⟨by simp [St.drop, dropT_len, h.size], fun i y v hy hv => ?_, ⟨fun n b hb => absurd hb dropM_get, fun n hn => (by cases hn), fun n k b z l c z' l' c' h => (by cases h), fun n b z l c h => (by cases h)⟩, hlt, fun _ h => h⟩ (.d (.bool b)) dst
  obtain ⟨x, hx, hy'⟩ := dropT_get hy
  rcases hy' with rfl | ⟨rfl, hr⟩
  · exact .undef v
  · exact plain_goes (h.tmp i _ v hx hv) hg hr

/-- A call of yield. -/
theorem yield_wpIn (h : StRel base out st μ tmps w) {l : Nat} {xs : List AV} (hy : yieldOf o st = some (l, xs)) {items : List (List DV)} {J : Seen} {B : Nat} (hS : SeenOk B J) (hG : Gives P l J items) {kk : Nat} {row : List DV}
    (hrow : reifyAll st xs = some row) (hk : items[kk]? = some row) (hJ : J (some kk) out w) {ds : List Deferred} {K : Act → World → Prop} {Q : Exit → Act → World → Prop}
    (hK : ∀ (b : Bool) o' w', StRel (ltU w'.heap.size) o' (st.drop.put o.dst (.d (.bool b))) (fun _ => none) (putT tmps o.dst (.bool b)) w' → J (if b then some (kk + 1) else none) o' w' → Stays w (ownOf out μ) w' (ownOf o' (fun _ => none)) →
      K { tmps := putT tmps o.dst (.bool b), defers := ds } w') : o.wpIn (fence none) n P { tmps := tmps, defers := ds } w K Q := by
  refine ⟨fun _ _ => trivial, ?_⟩
  unfold yieldOf at hy
  split at hy
  · rename_i f args ts ho
    split at hy
    · rename_i l' hev
      cases hy
      have hf := h.ev f []
      rw [hev] at hf
      have hv : val tmps f = .func (.yield l) #[] #[] := inv_yld hf
      have hargs : args.map (val tmps) = (args.toList.map (val tmps)).toArray := by apply Array.toList_inj.1; simp
      have hrels : DRels w out row ((args.toList.map (val tmps)).toArray) := lent_args h (by simp) (fun i x v hx hv => by
        simp only [List.getElem?_map, Option.map_eq_some_iff, List.getElem?_toArray] at hx hv
        obtain ⟨a, ha, rfl⟩ := hx
        obtain ⟨b, hb, rfl⟩ := hv
        rw [ha] at hb; cases hb
        exact h.ev a []) hrow
      obtain ⟨fn, tmps1, assign, body, hyr, hround⟩ := hG (n - 1) kk out w _ row hk hJ hrels
      have hrun : (execOp ({ tmps := tmps, defers := ds } : Act).eval o).run P w = .ok (.round l fn tmps1 assign body) w := by
        unfold execOp
        rw [eval_fun]
        simp only [val] at hv hargs
        simp only [ho, resolve, hargs, hv, Deferred.ofValue, invoke, Sem.run_bind, Sem.run_pure, Result.andThen_ok, Array.empty_append]
        exact hyr
      rw [Oper.semAt_eq _ _ _ (by rw [ho]; intro c hc; cases hc), hrun]
      simp only [Oper.uponIn_round]
      refine ⟨(fun hsome => (by cases hsome)), hround.mono ?_⟩
      rintro e w' ⟨b, o', rfl, hJ', hs⟩
      simp only [put_act]
      have hlt := hS.lt _ _ _ hJ'
      refine hK b o' w' (drop_rel h hs hlt) hJ' ⟨hs.1, fun k hk ho => ?_⟩
      obtain ⟨p1, p2⟩ := hs.2 k hk (fun hc => ho (.inl hc))
      exact ⟨p1, fun hc => p2 (by rcases hc with hc | ⟨n, z, l, c, hc⟩; exact hc; cases hc)⟩
    · cases hy
  · cases hy

theorem runY_wp {l : Nat} {items : List (List DV)} {J : Seen} {B : Nat} (hS : SeenOk B J) (hG : Gives P l J items) {ds : List Deferred} {Qm : Exit → Act → World → Prop} : ∀ (os : List Oper) (i : Nat) (k : Option Nat) (st : St) (K : Option Nat → St → Prop) (base : Own) (out : Own) (μ : Pl) (tmps : Array Value) (w : World),
    (∀ j o, os[j]? = some o → ops[i + j]? = some o) → runY P l items ops os k st K → StRel base out st μ tmps w → (∀ w', BelowU base w w' → J k out w') →
    (∀ k' st' base' out' μ' tmps' w', StRel base' out' st' μ' tmps' w' → (∀ w'', BelowU base' w' w'' → J k' out' w'') → Stays w (ownOf out μ) w' (ownOf out' μ') → Same (opDsts os) tmps tmps' → K k' st' → Qm .normal { tmps := tmps', defers := ds } w') →
    wpOpsIn (fence none) n P ops Qm (List.range' i os.length) { tmps := tmps, defers := ds } w
  | [], i, k, st, K, base, out, μ, tmps, w, _, hr, h, hJ, hK => hK k st base out μ tmps w h hJ (.refl _ _) (Same.refl _ _) hr
  | o :: os, i, k, st, K, base, out, μ, tmps, w, hos, hr, h, hJ, hK => by
    rw [List.length_cons, List.range'_succ, wpOpsIn_cons]
    have ho : ops[i]? = some o := by simpa using hos 0 o (by simp)
    have hos' : ∀ j o', os[j]? = some o' → ops[i + 1 + j]? = some o' := fun j o' hj => by have := hos (j + 1) o' (by simpa using hj); rwa [show i + 1 + j = i + (j + 1) by omega]
    -- a step that is no yield
    have plain : ∀ s', StepG P ops o st s' → dstOk o = true → runY P l items ops os k s' K → wpOpIn (fence none) n P ops Qm i (wpOpsIn (fence none) n P ops Qm (List.range' (i + 1) os.length)) { tmps := tmps, defers := ds } w := fun s' h1 hd h2 =>
      stepG_wpIn h ho hd h1 fun tmps' μ' w1 h3 hB hSa => runY_wp hS hG os (i + 1) k s' K base out μ' tmps' w1 hos' h2 h3 (fun w'' hb => hJ w'' (hB.keep.below.trans hb)) fun k2 st2 base2 out2 μ2 tmps2 w2 h4 hJ2 hs2 hSa2 hk2 =>
        hK k2 st2 base2 out2 μ2 tmps2 w2 h4 hJ2 (Stays.trans ⟨hB.keep.below.size, hB.stays⟩ hs2) (hSa.cons hSa2) hk2
    -- a yield that is wanted
    have yes : Region.wanted o (yielded ops tmps) = true → ∀ lx, yieldOf o st = some lx → yieldK l lx.1 items lx.2 o.dst k st (fun k s => runY P l items ops os k s K) →
        wpOpIn (fence none) n P ops Qm i (wpOpsIn (fence none) n P ops Qm (List.range' (i + 1) os.length)) { tmps := tmps, defers := ds } w := by
      rintro hw ⟨l', xs⟩ hy ⟨rfl, kk, row, rfl, hrow, hk, ht, hf⟩
      unfold wpOpIn
      simp only [ho, hw, if_true]
      refine yield_wpIn h hy hS hG hrow hk (hJ w (.refl _ _)) fun b o' w1 h3 hJ1 hs1 => ?_
      refine runY_wp hS hG os (i + 1) (if b then some (kk + 1) else none) (st.drop.put o.dst (.d (.bool b))) K (ltU w1.heap.size) o' _ _ w1 hos' (by cases b; exact hf; exact ht) h3 (fun w'' hb => hS.below _ _ _ _ hJ1 hb.to) fun k2 st2 base2 out2 μ2 tmps2 w2 h4 hJ2 hs2 hSa2 hk2 =>
        hK k2 st2 base2 out2 μ2 tmps2 w2 h4 hJ2 (hs1.trans hs2) ((same_put tmps o.dst _).cons hSa2) hk2
    obtain ⟨hd, hr⟩ := hr
    cases hg : guardT ops o with
    | none => rw [hg] at hr; exact hr.elim
    | some g =>
      rw [hg] at hr
      cases g with
      | none =>
        have hgp := guardT_plain hg
        dsimp only at hr
        unfold stepY at hr
        split at hr
        · rename_i lx hy
          exact yes (by simp [Region.wanted, hgp]) lx hy hr
        · obtain ⟨s1, h1, h2⟩ := stepK_spec hr
          exact plain s1 (by unfold StepG; rw [hgp]; exact h1) hd h2
      | some tw =>
        obtain ⟨t, want⟩ := tw
        obtain ⟨j, hj, ht⟩ := guardT_some hg
        have hr : guardedY P l items (st.ev (.tmp t)) want o k st (fun k s => runY P l items ops os k s K) := hr _ fun k s hs => hs
        unfold guardedY guardK at hr
        split at hr
        · rename_i b hev
          by_cases hb : b = want
          · have hr := hr.1 hb
            unfold stepY at hr
            split at hr
            · rename_i lx hy
              refine yes ?_ lx hy hr
              obtain ⟨v, hv, hrel⟩ := tmp_val h hev (by simp)
              have := inv_bool hrel
              subst this
              have : yielded ops tmps j = some b := by unfold yielded; rw [ht]; simp [hv]
              simp [Region.wanted, hj, this, hb]
            · obtain ⟨s1, h1, h2⟩ := stepK_spec hr
              exact plain s1 (by unfold StepG; rw [hj]; exact ⟨t, ht, .inl ⟨by rw [hev, hb], h1⟩⟩) hd h2
          · have hb' : b = !want := by cases b <;> cases want <;> simp_all
            exact plain _ (by unfold StepG; rw [hj]; exact ⟨t, ht, .inr ⟨.inl (by rw [hev, hb']), rfl⟩⟩) hd (hr.2 hb')
        · rename_i hev
          exact plain _ (by unfold StepG; rw [hj]; exact ⟨t, ht, .inr ⟨.inr hev, rfl⟩⟩) hd hr
        · exact hr.elim

/-- A region of an iterator. -/
theorem walk_regionY {l : Nat} {items : List (List DV)} {J : Seen} {B0 : Nat} (hS : SeenOk B0 J) (hG : Gives P l J items) {id : Nat} {k : Option Nat} {Q : Exit → Option Nat → St → Prop} (h : runY P l items ops ops.toList k st (Q .normal)) :
    Walk P none n (fun k _ o w => J k o w) (.region id ops false) k st Q := fun B base out μ tmps w ds _ hst hJ hM => by
  refine wpIn_region ?_
  have := runY_wp (n := n) hS hG (ds := ds) (Qm := Ends (fun k _ o w => J k o w) B (dsts (.region id ops false)) (ownOf out μ) tmps w Q) ops.toList 0 k st (Q .normal) base out μ tmps w (fun j o hj => by simpa using hj) h hst hJ
    (fun k' st' base' out' μ' tmps' w' h1 hJ' hs hSa hk => ⟨k', st', base', out', μ', h1, hJ', hM.stays hs, hs, hSa, hk⟩)
  rw [List.range_eq_range']
  simpa using this

theorem walkL_regionY {l : Nat} {items : List (List DV)} {J : Seen} {B0 : Nat} (hS : SeenOk B0 J) (hG : Gives P l J items) {id : Nat} {k : Option Nat} {cs : List Code} {Q : Exit → Option Nat → St → Prop}
    (h : ∀ K : Option Nat → St → Prop, (∀ k s, WalkL P none n (fun k _ o w => J k o w) cs k s Q → K k s) → runY P l items ops ops.toList k st K) :
    WalkL P none n (fun k _ o w => J k o w) (.region id ops false :: cs) k st Q :=
  walk_regionY hS hG (h _ fun _ _ h => h)

/-- An iterator's contract out of the walk of its body. -/
theorem iter_walk {f : FuncId} {fn : Func} {c : Code} {caps : List DV} {items : List (List DV)} (M : Nat) (he : ∀ args w, (callFunc f args).run P w = .ok (.enter f args) w) (hf : P.funcs[f]? = some fn) (hb : fn.body = some c) (h4 : fn.results = #[])
    (hw : ∀ l J B, SeenOk B J → Gives P l J items → WalkL P none 0 (fun k _ o w => J k o w) [c] (some 0) (St.start (.yld l :: caps) fn.ntmps M) (fun e k _ => endsOk e ∧ (k = some items.length ∨ k = none))) : Iter P f caps items := by
  refine ⟨he, fun l J w own vs hS hG hown hd h0 => ?_⟩
  have hwk := walkL_one (hw l J w.heap.size hS hG)
  have hD : DRels w own (.yld l :: caps) (#[.func (.yield l) #[] #[]] ++ vs) := ?_
  · have hO : EnvOk w.heap.size (fun k _ o w => J k o w) := fun k b o w1 w2 r hr hno ho hj => hS.other k o w1 w2 r hr hno ho hj
    refine calls_of_walkJ M hf hb (by rw [h4]; simp) hwk hown hD hO (fun w' hB => hS.below _ _ _ _ h0 hB) fun e k s hq => ?_
    refine ⟨hq.1, .tup [], by simp [resultsA, h4, allSome, retA], fun base' out' μ tmps v w' _ _ hj => ⟨v, out', rfl, ?_⟩⟩
    rcases hq.2 with rfl | rfl
    · exact .inl hj
    · exact .inr hj
  refine ⟨by rw [Array.size_append, ← hd.1, List.length_cons, Nat.add_comm]; rfl, fun i d v hi hv => ?_⟩
  · cases i with
    | zero =>
      rw [Array.getElem?_append_left (by simp)] at hv
      simp at hi hv
      subst hi; subst hv
      exact .yld l
    | succ i =>
      simp only [List.getElem?_cons_succ] at hi
      refine hd.2 i d v hi ?_
      rw [Array.getElem?_append_right (by simp)] at hv
      simpa using hv

end

theorem stepY_mono {P : Program} {l : Nat} {items : List (List DV)} {o : Oper} {k : Option Nat} {s : St} {K K' : Option Nat → St → Prop} (h : stepY P l items o k s K) (hK : ∀ k s, K k s → K' k s) : stepY P l items o k s K' := by
  unfold stepY at h ⊢
  split
  · rename_i hy
    rw [hy] at h
    obtain ⟨h1, kk, row, h2, h3, h4, h5, h6⟩ := h
    exact ⟨h1, kk, row, h2, h3, h4, hK _ _ h5, hK _ _ h6⟩
  · rename_i hy
    rw [hy] at h
    exact stepK_mono h fun s => hK k s

theorem guardRunY_tt (P : Program) (l : Nat) (items : List (List DV)) (o : Oper) (k : Option Nat) (s : St) (R : Option Nat → St → Prop) : guardRunY P l items (.d (.bool true)) true o k s R = stepY P l items o k s R := by
  apply propext
  exact ⟨fun h => (h R (fun _ _ h => h)).1 rfl, fun h K' hK => ⟨fun _ => stepY_mono h hK, fun e => (by cases e)⟩⟩
theorem guardRunY_ff (P : Program) (l : Nat) (items : List (List DV)) (o : Oper) (k : Option Nat) (s : St) (R : Option Nat → St → Prop) : guardRunY P l items (.d (.bool false)) false o k s R = stepY P l items o k s R := by
  apply propext
  exact ⟨fun h => (h R (fun _ _ h => h)).1 rfl, fun h K' hK => ⟨fun _ => stepY_mono h hK, fun e => (by cases e)⟩⟩
theorem guardRunY_tf (P : Program) (l : Nat) (items : List (List DV)) (o : Oper) (k : Option Nat) (s : St) (R : Option Nat → St → Prop) : guardRunY P l items (.d (.bool true)) false o k s R = R k (s.put o.dst .void) := by
  apply propext
  exact ⟨fun h => (h R (fun _ _ h => h)).2 rfl, fun h K' hK => ⟨fun e => (by cases e), fun _ => hK _ _ h⟩⟩
theorem guardRunY_ft (P : Program) (l : Nat) (items : List (List DV)) (o : Oper) (k : Option Nat) (s : St) (R : Option Nat → St → Prop) : guardRunY P l items (.d (.bool false)) true o k s R = R k (s.put o.dst .void) := by
  apply propext
  exact ⟨fun h => (h R (fun _ _ h => h)).2 rfl, fun h K' hK => ⟨fun e => (by cases e), fun _ => hK _ _ h⟩⟩
theorem guardRunY_void (P : Program) (l : Nat) (items : List (List DV)) (want : Bool) (o : Oper) (k : Option Nat) (s : St) (R : Option Nat → St → Prop) : guardRunY P l items .void want o k s R = R k (s.put o.dst .void) := by
  apply propext
  exact ⟨fun h => h R (fun _ _ h => h), fun h K' hK => hK _ _ h⟩
theorem guardRunY_cases {P : Program} {l : Nat} {items : List (List DV)} {b want : Bool} {o : Oper} {k : Option Nat} {s : St} {R : Option Nat → St → Prop} (h1 : b = want → stepY P l items o k s R) (h2 : b = !want → R k (s.put o.dst .void)) : guardRunY P l items (.d (.bool b)) want o k s R :=
  fun _ hK => ⟨fun e => stepY_mono (h1 e) hK, fun e => hK _ _ (h2 e)⟩

theorem runY_nil (P : Program) (l : Nat) (items : List (List DV)) (ops : Array Oper) (k : Option Nat) (s : St) (K : Option Nat → St → Prop) : runY P l items ops [] k s K = K k s := rfl
theorem runY_cons (P : Program) (l : Nat) (items : List (List DV)) (ops : Array Oper) (o : Oper) (os : List Oper) (k : Option Nat) (x : AV) (t : List AV) (m : List (Option Blk)) (K : Option Nat → St → Prop) : runY P l items ops (o :: os) k ⟨x :: t, m⟩ K = (dstOk o = true ∧ match guardT ops o with
    | none => False
    | some none => stepY P l items o k ⟨x :: t, m⟩ fun k s => runY P l items ops os k s K
    | some (some (t', want)) => guardRunY P l items ((⟨x :: t, m⟩ : St).ev (.tmp t')) want o k ⟨x :: t, m⟩ fun k s => runY P l items ops os k s K) := rfl

attribute [go_sem] dropT dropM St.drop stepY yieldOf guardRunY_tt guardRunY_ff guardRunY_tf guardRunY_ft guardRunY_void runY_nil runY_cons
end Go.Ab
/- A range over an iterator: the caller's walk. -/
namespace Go.Ab
open Go.RowKit

/-- An element's values, in the slots that take them. -/
def setPs : List Nat → List DV → List AV → List AV
  | p :: ps, d :: ds, t => setPs ps ds (t.set p (.d d))
  | _, _, t => t

def St.wipe (D : List Nat) (s : St) : St := { t := wipeT D s.t, m := s.m }

/-- A jump out of a round, as code. -/
def jumpCode : Exit → Option Code
  | .ret => some .ret
  | .exit id => some (.exit id)
  | .goto t => some (.goto t)
  | _ => none

section
variable {P : Program} {base : Own} {out : Own} {st st' : St} {μ : Pl} {tmps : Array Value} {w w' : World} {J : Env} {k : Option Nat} {B : Nat}

theorem wipeT_get : ∀ {D : List Nat} {t : List AV} {i : Nat} {x : AV}, (wipeT D t)[i]? = some x → x = .undef ∨ (i ∉ D ∧ t[i]? = some x)
  | [], t, i, x, h => .inr ⟨by simp, h⟩
  | d :: D, t, i, x, h => by
    rcases wipeT_get (D := D) h with h | ⟨h1, h2⟩
    · exact .inl h
    · rw [List.getElem?_set] at h2
      by_cases hd : d = i
      · subst hd
        simp only [if_true] at h2
        split at h2
        · cases h2; exact .inl rfl
        · cases h2
      · simp only [hd, if_false] at h2
        exact .inr ⟨by simp [h1]; exact fun e => hd e.symm, h2⟩

theorem wipeT_len : ∀ (D : List Nat) (t : List AV), (wipeT D t).length = t.length
  | [], _ => rfl
  | d :: D, t => by simp [wipeT, wipeT_len D]

/-- What a round leaves, seen from the frame that the loop was entered with. -/
theorem wipe_rel {tmps' : Array Value} (h : StRel base out st μ tmps' w) {D : List Nat} (hS : Same D tmps tmps') : StRel base out (st.wipe D) μ tmps w := by
  refine ⟨by rw [← hS.1, h.size]; simp [St.wipe, wipeT_len], fun i x v hx hv => ?_, h.mem, h.out, h.le⟩
  rcases wipeT_get hx with rfl | ⟨h1, h2⟩
  · exact .undef v
  · exact h.tmp i x v h2 (by rw [hS.2 i h1]; exact hv)

theorem Other.back {r : Nat} (ho : Other r w w') (hr : r < w.heap.size) {w2 : World} (hB : BelowU base w' w2) : ∃ w1, BelowU base w w1 ∧ Other r w1 w2 := by
  obtain ⟨o, hwo⟩ : ∃ o, w.heap[r]? = some o := ⟨_, Array.getElem?_eq_getElem hr⟩
  have hr2 : r < w2.heap.size := Nat.lt_of_lt_of_le hr (by rw [← ho.wrote.size]; exact hB.size)
  refine ⟨w2.putObj r o, ⟨hB.os.trans ho.wrote.os, hB.tape.trans ho.wrote.tape, hB.output.trans ho.wrote.output, by rw [World.putObj_size, ← ho.wrote.size]; exact hB.size, fun k hk => ?_⟩, ⟨⟨rfl, rfl, rfl, by simp, fun k hk => (World.putObj_heap_other hk).symm⟩, fun cs ty x e => ?_⟩⟩
  · by_cases hkr : k = r
    · subst hkr; rw [World.putObj_heap_same hr2, hwo]
    · rw [World.putObj_heap_other hkr, hB.block k hk, ho.wrote.block k hkr]
  · rw [World.putObj_heap_same hr2] at e
    exact ho.no cs ty x (hwo.trans e)

/-- What holds beside the frame abides a turn of a block that is no cells. -/
theorem env_other (hO : EnvOk B J) (hJ : ∀ w', BelowU base w w' → J k base out w') {r : Nat} (hB : B ≤ r) (hno : ¬ out r) (hr : r < w.heap.size) (ho : Other r w w') : ∀ w2, BelowU base w' w2 → J k base out w2 := fun w2 h2 => by
  obtain ⟨w1, h1, ho1⟩ := ho.back hr h2
  exact hO k base out w1 w2 r hB hno ho1 (hJ w1 h1)

theorem other_put {r : Nat} {o o' : Obj} (h : w.heap[r]? = some o) (hno : ∀ cs ty x, o ≠ .cells cs ty x) : Other r w (w.putObj r o') :=
  ⟨⟨rfl, rfl, rfl, by simp, fun _ hk => World.putObj_heap_other hk⟩, fun cs ty x e => by rw [h] at e; cases e; exact hno _ _ _ rfl⟩

theorem setPs_len : ∀ (ps : List Nat) (ds : List DV) (t : List AV), (setPs ps ds t).length = t.length
  | [], _, _ => rfl
  | _ :: _, [], _ => rfl
  | p :: ps, d :: ds, t => by simp [setPs, setPs_len ps]

/-- An element's values come into the frame. -/
theorem zip_rel : ∀ (ps : List Nat) (ds : List DV) (vs : List Value) (st : St) (tmps : Array Value), ds.length = vs.length → (∀ (i : Nat) d v, ds[i]? = some d → vs[i]? = some v → DRel w (ownOf out μ) d v) → StRel base out st μ tmps w →
    StRel base out { t := setPs ps ds st.t, m := st.m } μ ((ps.zip vs).foldl (fun t (p, v) => t.setIfInBounds p v) tmps) w
  | [], _, _, st, tmps, _, _, h => by simpa [setPs] using h
  | _ :: _, [], [], st, tmps, _, _, h => by simpa [setPs] using h
  | p :: ps, d :: ds, v :: vs, st, tmps, hl, hd, h => by
    have h1 := h.put (.d (hd 0 d v rfl rfl)) (some p)
    have := zip_rel ps ds vs (st.put (some p) (.d d)) (putT tmps (some p) v) (by simpa using hl) (fun i d' v' h1 h2 => hd (i + 1) d' v' (by simpa using h1) (by simpa using h2)) h1
    simpa [setPs, St.put, putT] using this
  | _ :: _, [], _ :: _, _, _, hl, _, _ => by simp at hl
  | _ :: _, _ :: _, [], _, _, hl, _, _ => by simp at hl

theorem zip_same : ∀ (ps : List Nat) (vs : List Value) (tmps : Array Value), Same ps tmps ((ps.zip vs).foldl (fun t (p, v) => t.setIfInBounds p v) tmps)
  | [], _, _ => Same.refl _ _
  | _ :: _, [], _ => Same.refl _ _
  | p :: ps, v :: vs, tmps => ⟨by have := (zip_same ps vs (tmps.setIfInBounds p v)).1; simpa using this, fun i hi => by
    have h1 := (zip_same ps vs (tmps.setIfInBounds p v)).2 i (by simp at hi; simp [hi.2])
    have h2 : p ≠ i := fun e => hi (by simp [e])
    simp only [List.zip_cons_cons, List.foldl_cons]
    rw [h1, Array.getElem?_setIfInBounds_ne h2]⟩

theorem same_size {D : List Nat} {a b : Array Value} {n m : Nat} (ha : a.size = n) (hb : b.size = m) (h : n = m) : a.size = b.size := by omega

theorem inv_dfn' {own : Own} {f : FuncId} {cs : List DV} {v : Value} (h : AVRel w own μ (.d (.fn f cs)) v) : ∃ vs : Array Value, v = .func (.func f) #[] vs ∧ DRels w own cs vs := by
  obtain ⟨vs, h1, h2, h3⟩ := inv_dfn h
  exact ⟨vs, h1, h2, h3⟩

/-- **A range over an iterator.** 'fs': the states between two rounds, told by something simpler; 'I': what holds when so many elements have come; 'Ix': what holds where a round has left by a jump. -/
theorem walkL_range {n : Nat} {α : Type} {cs : List Code} {Q : Exit → Option Nat → St → Prop} {g : Operand} {ps : Array Tmp} {assign body : Code} {f : FuncId} {caps : List DV} {items : List (List DV)}
    (hg : st.ev g = .d (.fn f caps)) (hit : Iter P f caps items) (hps : ∀ row ∈ items, row.length = ps.size)
    (fs : α → St) (I : Option Nat → Nat → α → Prop) (Ix : Exit → Option Nat → α → Prop) (a0 : α) (hw : Weak st (fs a0)) (h0 : I k 0 a0)
    (hround : ∀ k' i a row, items[i]? = some row → I k' i a → ∀ l m, WalkL P (some l) m J [assign] k' { t := setPs ps.toList row (fs a).t, m := (fs a).m }
      (thenA (fun k2 s => WalkL P (some l) m J [body] k2 s fun e k3 s3 => match e with
        | .normal => ∃ a', Weak (s3.wipe (dsts (.rangeFunc g ps assign body))) (fs a') ∧ I k3 (i + 1) a'
        | e => (jumpCode e).isSome ∧ ∃ a', Weak (s3.wipe (dsts (.rangeFunc g ps assign body))) (fs a') ∧ Ix e k3 a') (fun _ _ _ => False)))
    (hdone : ∀ k' a, I k' items.length a → WalkL P none n J cs k' (fs a) Q) (hstop : ∀ e k' a, Ix e k' a → (jumpCode e).isSome → Q e k' (fs a)) :
    WalkL P none n J (.rangeFunc g ps assign body :: cs) k st Q := by
  intro B base out μ tmps w ds hO hA hJ hM
  obtain ⟨vs, hgv, hcaps⟩ := inv_dfn' (hg ▸ hA.ev g ds)
  obtain ⟨μ0, hA0, hsub0⟩ := hw base out μ tmps w hA
  have hgoes0 : Goes w (ownOf out μ) w (ownOf out μ0) := fun b o v h1 h2 => ⟨fun hc => h1 (hsub0 b hc), h2⟩
  refine wpIn_rangeFunc ?_
  intro fn hfn
  obtain ⟨rec, hrec⟩ : ∃ rec : LoopState → Option Code → Loop, rec = fun st pe => { state := st, pending := pe, fn, tmps := tmps, params := ps, assign, body, defers := w.heap.size } := ⟨_, rfl⟩
  obtain ⟨W1, hW1⟩ : ∃ W1, (w.alloc (.deferred (some []))).alloc (.loop (rec .ready none)) = W1 := ⟨_, rfl⟩
  have hL1 : W1.heap[w.heap.size + 1]? = some (.loop (rec .ready none)) := by
    rw [← hW1]; have := World.alloc_heap_new (w.alloc (.deferred (some []))) (.loop (rec .ready none)); rwa [World.size_alloc] at this
  have hK1 : W1.heap[w.heap.size]? = some (.deferred (some [])) := by
    rw [← hW1]; exact (Below.heap_alloc _ _ _ (by simp)).trans (World.alloc_heap_new w _)
  have hB1 : Below w.heap.size w W1 := by
    rw [← hW1]; exact ((Below.refl _ w).alloc (Nat.le_refl _) _).alloc (by simp) _
  have hz1 : W1.heap.size = w.heap.size + 2 := by rw [← hW1]; simp
  -- what the caller says between two rounds
  obtain ⟨JJ, hJJ⟩ : ∃ JJ : Seen, JJ = fun ki o W => ∃ (e : Exit) (kk : Option Nat) (a : α) (b' : Own) (o' : Own) (μ' : Pl), o = (fun b => ownOf o' μ' b ∨ b = w.heap.size + 1) ∧ StRel b' o' (fs a) μ' tmps W ∧ (∀ w'', BelowU b' W w'' → J kk b' o' w'') ∧
      Stays w (ownOf out μ0) W (ownOf o' μ') ∧ ¬ ownOf o' μ' w.heap.size ∧ ¬ ownOf o' μ' (w.heap.size + 1) ∧ W.heap[w.heap.size]? = some (.deferred (some [])) ∧
      match ki with
      | some i => I kk i a ∧ W.heap[w.heap.size + 1]? = some (.loop (rec .ready none))
      | none => Ix e kk a ∧ (jumpCode e).isSome ∧ W.heap[w.heap.size + 1]? = some (.loop (rec .done (jumpCode e))) := ⟨_, rfl⟩
  have hBw : B ≤ w.heap.size := hM.1
  have hS : SeenOk W1.heap.size JJ := by
    subst hJJ
    refine ⟨?_, ?_, ?_⟩
    · rintro ki o W W' ⟨e, kk, a, b', o', μ', rfl, h1, h2, h3, h4, h5, h6, h7⟩ hB
      have hl1 : W'.heap[w.heap.size]? = some (.deferred (some [])) := by rw [hB.block _ (Array.getElem?_eq_some_iff.1 h6).1]; exact h6
      refine ⟨e, kk, a, b', o', μ', rfl, h1.below hB, fun w'' hb => h2 w'' ((BelowU.of hB h1.le).trans hb), h3.trans ⟨hB.size, fun b hb ho => ⟨hB.block b hb, ho⟩⟩, h4, h5, hl1, ?_⟩
      cases ki with
      | some i => exact ⟨h7.1, by rw [hB.block _ (Array.getElem?_eq_some_iff.1 h7.2).1]; exact h7.2⟩
      | none => exact ⟨h7.1, h7.2.1, by rw [hB.block _ (Array.getElem?_eq_some_iff.1 h7.2.2).1]; exact h7.2.2⟩
    · rintro ki o W W' r hr hno ho ⟨e, kk, a, b', o', μ', rfl, h1, h2, h3, h4, h5, h6, h7⟩
      have hr1 : r ≠ w.heap.size := by omega
      have hr2 : r ≠ w.heap.size + 1 := by omega
      have hnr : ¬ o' r := fun hc => hno (.inl (.inl hc))
      have hbelow : ∀ w2, BelowU b' W' w2 → J kk b' o' w2 := by
        by_cases hrs : r < W.heap.size
        · exact env_other hO h2 (by omega) hnr hrs ho
        · intro w2 hb
          refine h2 w2 ⟨hb.os.trans ho.wrote.os, hb.tape.trans ho.wrote.tape, hb.output.trans ho.wrote.output, by rw [← ho.wrote.size]; exact hb.size, fun q hq => ?_⟩
          rw [hb.block q hq]
          exact ho.wrote.block q (fun e => by have := h1.le q hq; omega)
      refine ⟨e, kk, a, b', o', μ', rfl, h1.other ho, hbelow, ⟨by rw [ho.wrote.size]; exact h3.1, fun b hb hob => ?_⟩, h4, h5, by rw [ho.wrote.block _ (Ne.symm hr1)]; exact h6, ?_⟩
      · rw [ho.wrote.block b (by omega)]; exact h3.2 b hb hob
      · cases ki with
        | some i => exact ⟨h7.1, by rw [ho.wrote.block _ (Ne.symm hr2)]; exact h7.2⟩
        | none => exact ⟨h7.1, h7.2.1, by rw [ho.wrote.block _ (Ne.symm hr2)]; exact h7.2.2⟩
    · rintro ki o W ⟨e, kk, a, b', o', μ', rfl, h1, h2, h3, h4, h5, h6, h7⟩ b (hb | rfl)
      · exact owned_lt h1 b hb
      · cases ki with
        | some i => exact (Array.getElem?_eq_some_iff.1 h7.2).1
        | none => exact (Array.getElem?_eq_some_iff.1 h7.2.2).1
  have hG : Gives P (w.heap.size + 1) JJ items := by
    intro m i o W vals row hi hj hrow
    rw [hJJ] at hj
    obtain ⟨_, kk, a, b', o', μ', rfl, h1, h2, h3, h4, h5, h6, h7, h8⟩ := hj
    have hrl := hps row (List.mem_of_getElem? hi)
    have hlt : w.heap.size + 1 < W.heap.size := (Array.getElem?_eq_some_iff.1 h8).1
    have hy := run_yield (P := P) (args := vals) h8 (by rw [hrec]; simp only; rw [← hrow.1, hrl])
    rw [hrec] at hy
    refine ⟨fn, _, assign, body, hy, roundIn_of_wpIn trivial ?_⟩
    -- the element comes into the frame
    have hz : StRel b' o' { t := setPs ps.toList row (fs a).t, m := (fs a).m } μ' ((ps.zip vals).foldl (fun t (p, v) => t.setIfInBounds p v) tmps) W := by
      have := zip_rel ps.toList row vals.toList (fs a) tmps (by simpa using hrow.1) (fun i d v hd hv => (hrow.2 i d v hd (by simpa using hv)).goes fun b o v h1 h2 => ⟨fun hc => h1 (.inl hc), h2⟩) h1
      rwa [← Array.toList_zip, ← Array.foldl_toList] at *
    have hzs : Same ps.toList tmps ((ps.zip vals).foldl (fun t (p, v) => t.setIfInBounds p v) tmps) := by
      have := zip_same ps.toList vals.toList tmps
      rwa [← Array.toList_zip, Array.foldl_toList] at this
    have hr0 := walkL_one (hround kk i a row hi h7 (w.heap.size + 1) m) B b' o' μ' _ W [] hO hz h2 (.nil (by omega))
    refine wpIn_mono hr0 ?_
    rintro e a1 w1 ⟨k1, s1, b1, o1, μ1, hA1, hJ1, hM1, hst1, hsa1, hq1⟩
    cases e with
    | normal =>
      -- the record is busy
      have hl1 : w1.heap[w.heap.size + 1]? = some (.loop (rec .ready none)) := by rw [(hst1.2 _ hlt h5).1]; exact h8
      have hno1 : ¬ ownOf o1 μ1 (w.heap.size + 1) := (hst1.2 _ hlt h5).2
      have hd1 : w1.heap[w.heap.size]? = some (.deferred (some [])) := by rw [(hst1.2 _ (by omega) h4).1]; exact h6
      have hnd1 : ¬ ownOf o1 μ1 w.heap.size := (hst1.2 _ (by omega) h4).2
      have ho1 : Other (w.heap.size + 1) w1 (w1.putObj (w.heap.size + 1) (.loop { rec .ready none with state := .busy })) := other_put hl1 (fun _ _ _ e => by cases e)
      refine ⟨_, run_beginRound hl1 (by rw [hrec]), ?_⟩
      have hlt1 : w.heap.size + 1 < w1.heap.size := (Array.getElem?_eq_some_iff.1 hl1).1
      have hM2 : Marked B (ownOf o1 μ1) a1.defers (w1.putObj (w.heap.size + 1) (.loop { rec .ready none with state := .busy })) := by
        obtain ⟨q0, rs, q1, q2, q3⟩ := hM1
        refine ⟨by simpa using q0, rs, q1, q2, fun r hr => ⟨(q3 r hr).1, (q3 r hr).2.1, ?_⟩⟩
        rw [World.putObj_heap_other (fun e => by subst e; have := (q3 _ hr).2.2; rw [hl1] at this; cases this)]
        exact (q3 r hr).2.2
      have hb0 := walkL_one hq1 B b1 o1 μ1 a1.tmps _ a1.defers hO (hA1.other ho1) (env_other hO hJ1 (by omega) (fun hc => hno1 (.inl hc)) hlt1 ho1) hM2
      refine wpIn_mono hb0 ?_
      rintro e2 a2 w2 ⟨k2, s2, b2, o2, μ2, hA2, hJ2, hM3, hst2, hsa2, hq2⟩
      have hz2 : (w1.putObj (w.heap.size + 1) (.loop { rec .ready none with state := .busy })).heap.size = w1.heap.size := by simp
      have hl2 : w2.heap[w.heap.size + 1]? = some (.loop { rec .ready none with state := .busy }) := by
        rw [(hst2.2 _ (by rw [hz2]; exact hlt1) hno1).1]; exact World.putObj_heap_same hlt1
      have hno2 : ¬ ownOf o2 μ2 (w.heap.size + 1) := (hst2.2 _ (by rw [hz2]; exact hlt1) hno1).2
      have hd2 : w2.heap[w.heap.size]? = some (.deferred (some [])) := by
        rw [(hst2.2 _ (by rw [hz2]; omega) hnd1).1, World.putObj_heap_other (by omega)]; exact hd1
      have hnd2 : ¬ ownOf o2 μ2 w.heap.size := (hst2.2 _ (by rw [hz2]; omega) hnd1).2
      have hsame : Same (dsts (.rangeFunc g ps assign body)) tmps a2.tmps :=
        ((hzs.mono fun i hi => by simp only [dsts, List.mem_append]; exact .inl hi).trans (hsa1.mono fun i hi => by simp only [dsts, List.mem_append]; exact .inr (.inl hi))).trans (hsa2.mono fun i hi => by simp only [dsts, List.mem_append]; exact .inr (.inr hi))
      -- from the round's beginning to its end
      have hall : ∀ (b : Nat), b < W.heap.size → b ≠ w.heap.size + 1 → ¬ ownOf o' μ' b → w2.heap[b]? = W.heap[b]? ∧ ¬ ownOf o2 μ2 b := by
        intro b hb hne ho
        obtain ⟨p1, p2⟩ := hst1.2 b hb ho
        obtain ⟨p3, p4⟩ := hst2.2 b (by rw [hz2]; exact Nat.lt_of_lt_of_le hb hst1.1) p2
        exact ⟨p3.trans ((World.putObj_heap_other hne).trans p1), p4⟩
      have hsz : W.heap.size ≤ w2.heap.size := Nat.le_trans hst1.1 (by rw [← hz2]; exact hst2.1)
      have hlt2 : w.heap.size + 1 < w2.heap.size := (Array.getElem?_eq_some_iff.1 hl2).1
      have fin : ∀ (pe : Option Code) (stt : LoopState) (a' : α), Weak (s2.wipe (dsts (.rangeFunc g ps assign body))) (fs a') → ∀ W5, W5 = w2.putObj (w.heap.size + 1) (.loop (rec stt pe)) →
          ∃ μ5, StRel b2 o2 (fs a') μ5 tmps W5 ∧ (∀ w'', BelowU b2 W5 w'' → J k2 b2 o2 w'') ∧ Stays w (ownOf out μ0) W5 (ownOf o2 μ5) ∧ ¬ ownOf o2 μ5 w.heap.size ∧ ¬ ownOf o2 μ5 (w.heap.size + 1) ∧ W5.heap[w.heap.size]? = some (.deferred (some [])) ∧
            W5.heap[w.heap.size + 1]? = some (.loop (rec stt pe)) ∧ Stays W (fun b => ownOf o' μ' b ∨ b = w.heap.size + 1) W5 (fun b => ownOf o2 μ5 b ∨ b = w.heap.size + 1) := by
        rintro pe stt a' hwk W5 rfl
        have ho2 : Other (w.heap.size + 1) w2 (w2.putObj (w.heap.size + 1) (.loop (rec stt pe))) := other_put hl2 (fun _ _ _ e => by cases e)
        obtain ⟨μ5, h51, h52⟩ := hwk b2 o2 μ2 tmps _ (wipe_rel (hA2.other ho2) hsame)
        refine ⟨μ5, h51, env_other hO hJ2 (by omega) (fun hc => hno2 (.inl hc)) hlt2 ho2, ⟨by rw [World.putObj_size]; exact Nat.le_trans h3.1 hsz, fun b hb ho => ?_⟩, fun hc => hnd2 (h52 _ hc), fun hc => hno2 (h52 _ hc), by rw [World.putObj_heap_other (by omega)]; exact hd2, World.putObj_heap_same hlt2, ⟨by rw [World.putObj_size]; exact hsz, fun b hb ho => ?_⟩⟩
        · obtain ⟨p1, p2⟩ := h3.2 b hb ho
          obtain ⟨p3, p4⟩ := hall b (Nat.lt_of_lt_of_le hb h3.1) (by omega) p2
          exact ⟨(World.putObj_heap_other (by omega)).trans (p3.trans p1), fun hc => p4 (h52 _ hc)⟩
        · have hne : b ≠ w.heap.size + 1 := fun e => ho (.inr e)
          obtain ⟨p3, p4⟩ := hall b hb hne (fun hc => ho (.inl hc))
          exact ⟨(World.putObj_heap_other hne).trans p3, fun hc => by rcases hc with hc | hc; exact p4 (h52 _ hc); exact hne hc⟩
      have out_ : ∀ e3, (jumpCode e3).isSome → (∃ a', Weak (s2.wipe (dsts (.rangeFunc g ps assign body))) (fs a') ∧ Ix e3 k2 a') → ∃ v w', (Instr.endRound (w.heap.size + 1) (jumpCode e3)).run P w2 = .ok v w' ∧
          ∃ b o5, Ending.returned v = .returned (.bool b) ∧ JJ (if b then some (i + 1) else none) o5 w' ∧ Stays W (fun b => ownOf o' μ' b ∨ b = w.heap.size + 1) w' o5 := by
        rintro e3 hjs ⟨a', hwk, hix⟩
        obtain ⟨μ5, q1, q2, q3, q4, q5, q6, q7, q8⟩ := fin (jumpCode e3) .done a' hwk _ rfl
        have hen := run_endRound (P := P) (jumpCode e3) hl2
        have hjn : (jumpCode e3).isNone = false := by cases hj : jumpCode e3 <;> simp_all
        rw [hjn] at hen
        refine ⟨_, _, hen, false, (fun b => ownOf o2 μ5 b ∨ b = w.heap.size + 1), rfl, ?_, ?_⟩
        · rw [hJJ]
          refine ⟨e3, k2, a', b2, o2, μ5, rfl, ?_, ?_, ?_, q4, q5, ?_, hix, hjs, ?_⟩
          · rw [hrec] at q1 ⊢; exact q1
          · rw [hrec] at q2 ⊢; exact q2
          · rw [hrec] at q3 ⊢; exact q3
          · rw [hrec] at q6 ⊢; exact q6
          · rw [hrec] at q7 ⊢; exact q7
        · rw [hrec] at q8 ⊢; exact q8
      cases e2 with
      | normal =>
        obtain ⟨a', hwk, hI'⟩ := hq2
        obtain ⟨μ5, q1, q2, q3, q4, q5, q6, q7, q8⟩ := fin none .ready a' hwk _ rfl
        have hen := run_endRound (P := P) none hl2
        refine ⟨_, _, hen, true, (fun b => ownOf o2 μ5 b ∨ b = w.heap.size + 1), rfl, ?_, ?_⟩
        · rw [hJJ]
          refine ⟨.normal, k2, a', b2, o2, μ5, rfl, ?_, ?_, ?_, q4, q5, ?_, hI', ?_⟩
          · rw [hrec] at q1 ⊢; exact q1
          · rw [hrec] at q2 ⊢; exact q2
          · rw [hrec] at q3 ⊢; exact q3
          · rw [hrec] at q6 ⊢; exact q6
          · rw [hrec] at q7 ⊢; exact q7
        · rw [hrec] at q8 ⊢; exact q8
      | ret => exact out_ .ret hq2.1 hq2.2
      | exit id => exact out_ (.exit id) hq2.1 hq2.2
      | goto t => exact out_ (.goto t) hq2.1 hq2.2
      | panic c => exact absurd hq2.1 (by simp [jumpCode])
      | outgrown => exact absurd hq2.1 (by simp [jumpCode])
    | _ => exact hq1.elim
  have hJ0 : JJ (some 0) (fun b => ownOf out μ0 b ∨ b = w.heap.size + 1) W1 := by
    rw [hJJ]
    have hlow : ∀ b, ownOf out μ0 b → b < w.heap.size := owned_lt hA0
    exact ⟨.normal, k, a0, base, out, μ0, rfl, hA0.below hB1, fun w'' hb => hJ w'' ((BelowU.of hB1 hA.le).trans hb), ⟨hB1.size, fun b hb ho => ⟨hB1.block b hb, ho⟩⟩,
      fun hc => by have := hlow _ hc; omega, fun hc => by have := hlow _ hc; omega, hK1, h0, hL1⟩
  have hcalls := hit.2 (w.heap.size + 1) JJ W1 (fun b => ownOf out μ0 b ∨ b = w.heap.size + 1) vs hS hG (fun b hb => hS.lt _ _ _ hJ0 b hb)
    ⟨hcaps.1, fun i d v h1 h2 => ((hcaps.2 i d v h1 h2).goes hgoes0).goes fun b o u p1 p2 => ⟨fun hc => by rcases hc with hc | rfl; exact p1 hc; exact absurd (cell_lt p2) (by omega), by
      simp only [World.cell?] at p2 ⊢; rw [hB1.block b (cell_lt (w := w) (o := o) (v := u) (by simpa [World.cell?] using p2))]; exact p2⟩⟩ hJ0
  refine ⟨w.heap.size + 1, [{ target := .collected w.heap.size, args := #[] }], W1, { target := .fn (.func f) vs, args := #[.func (.yield (w.heap.size + 1)) #[] #[]] }, W1, f,
    #[.func (.yield (w.heap.size + 1)) #[] #[]] ++ vs, W1, ?_, ?_, fun _ _ => trivial, ?_, fun h => (by cases h), ?_⟩
  · rw [← hW1, hrec]; exact run_enterLoop_outer _ _ _ _ _
  · simp only [resolve]
    have hgv' : ({ tmps := tmps, defers := ds } : Act).eval g = .func (.func f) #[] vs := hgv
    simp only [hgv']
    simp [Deferred.ofValue, go_sem]
  · simp [invoke]; exact hit.1 _ _
  · refine (callsIn_wide (n := n - 1)).2 (hcalls.mono ?_)
    rintro e W2 ⟨v, o, rfl, hj⟩
    have hMk : ∀ (o' : Own) (μ' : Pl) (W4 : World), Stays w (ownOf out μ0) W4 (ownOf o' μ') → ¬ ownOf o' μ' w.heap.size → W4.heap[w.heap.size]? = some (.deferred (some [])) →
        Marked B (ownOf o' μ') ([{ target := .collected w.heap.size, args := #[] }] ++ ds) W4 := by
      intro o' μ' W4 hs hno hd
      obtain ⟨q0, rs, q1, q2, q3⟩ := hM
      refine ⟨Nat.le_trans q0 hs.1, w.heap.size :: rs, by rw [q1]; rfl, ?_, fun r hr => ?_⟩
      · rw [List.nodup_cons]
        refine ⟨fun hc => ?_, q2⟩
        have := (Array.getElem?_eq_some_iff.1 (q3 _ hc).2.2).1
        omega
      · rcases List.mem_cons.1 hr with rfl | hr
        · exact ⟨q0, hno, hd⟩
        · obtain ⟨p1, p2, p3⟩ := q3 r hr
          obtain ⟨p4, p5⟩ := hs.2 r (Array.getElem?_eq_some_iff.1 p3).1 (fun hc => p2 (hsub0 r hc))
          exact ⟨p1, p5, p4.trans p3⟩
    rcases hj with hj | hj
    · rw [hJJ] at hj
      obtain ⟨_, kk, a, b', o', μ', rfl, h1, h2, h3, h4, h5, h6, h7, h8⟩ := hj
      have hel : ∃ o4, (Instr.endLoop (w.heap.size + 1)).run P W2 = .ok (none) (W2.putObj (w.heap.size + 1) o4) := ⟨_, by
        have hel := run_endLoop (P := P) h8 (by rw [hrec]; simp)
        have hpn : (rec .ready none).pending = none := by rw [hrec]
        rw [hpn] at hel
        exact hel⟩
      obtain ⟨o4, hel⟩ := hel
      have ho2 : Other (w.heap.size + 1) W2 (W2.putObj (w.heap.size + 1) o4) := other_put h8 (fun _ _ _ e => by cases e)
      refine ⟨none, _, hel, ?_⟩
      have hlt : w.heap.size + 1 < W2.heap.size := (Array.getElem?_eq_some_iff.1 h8).1
      have hs4 : Stays w (ownOf out μ0) (W2.putObj (w.heap.size + 1) o4) (ownOf o' μ') :=
        ⟨by rw [World.putObj_size]; exact h3.1, fun b hb ho => ⟨(World.putObj_heap_other (by omega)).trans (h3.2 b hb ho).1, (h3.2 b hb ho).2⟩⟩
      exact ⟨kk, fs a, b', o', μ', h1.other ho2, env_other hO h2 (by omega) (fun hc => h5 (.inl hc)) hlt ho2, hMk o' μ' _ hs4 h4 (by rw [World.putObj_heap_other (by omega)]; exact h6), (Stays.less hsub0).trans hs4, Same.refl _ _, hdone kk a h7⟩
    · rw [hJJ] at hj
      obtain ⟨e, kk, a, b', o', μ', rfl, h1, h2, h3, h4, h5, h6, h7, hjs, h8⟩ := hj
      have hel : ∃ o4, (Instr.endLoop (w.heap.size + 1)).run P W2 = .ok (jumpCode e) (W2.putObj (w.heap.size + 1) o4) := ⟨_, by
        have hel := run_endLoop (P := P) h8 (by rw [hrec]; simp)
        have hpn : (rec .done (jumpCode e)).pending = jumpCode e := by rw [hrec]
        rw [hpn] at hel
        exact hel⟩
      obtain ⟨o4, hel⟩ := hel
      have ho2 : Other (w.heap.size + 1) W2 (W2.putObj (w.heap.size + 1) o4) := other_put h8 (fun _ _ _ e => by cases e)
      refine ⟨jumpCode e, _, hel, ?_⟩
      have hlt : w.heap.size + 1 < W2.heap.size := (Array.getElem?_eq_some_iff.1 h8).1
      have hs4 : Stays w (ownOf out μ0) (W2.putObj (w.heap.size + 1) o4) (ownOf o' μ') :=
        ⟨by rw [World.putObj_size]; exact h3.1, fun b hb ho => ⟨(World.putObj_heap_other (by omega)).trans (h3.2 b hb ho).1, (h3.2 b hb ho).2⟩⟩
      have hend : ∀ Q', Q' e kk (fs a) → Ends J B (dsts (.rangeFunc g ps assign body)) (ownOf out μ) tmps w Q' e { tmps := tmps, defers := [{ target := .collected w.heap.size, args := #[] }] ++ ds } (W2.putObj (w.heap.size + 1) o4) := fun Q' hq =>
        ⟨kk, fs a, b', o', μ', h1.other ho2, env_other hO h2 (by omega) (fun hc => h5 (.inl hc)) hlt ho2, hMk o' μ' _ hs4 h4 (by rw [World.putObj_heap_other (by omega)]; exact h6), (Stays.less hsub0).trans hs4, Same.refl _ _, hq⟩
      have hq := hstop e kk a h7 hjs
      cases e with
      | ret => exact wpIn_ret (hend _ hq)
      | exit id => exact wpIn_exit (hend _ hq)
      | goto t => exact wpIn_goto (hend _ hq)
      | _ => simp [jumpCode] at hjs

theorem walkL_rangeS {n : Nat} {α : Type} {cs : List Code} {Q : Exit → Option Nat → St → Prop} {g : Operand} {ps : Array Tmp} {assign body : Code} {f : FuncId} {caps : List DV} {items : List (List DV)}
    (hg : st.ev g = .d (.fn f caps)) (hit : Iter P f caps items) (hps : ∀ row ∈ items, row.length = ps.size)
    (ts : α → List (Nat × AV)) (ms : α → List (Nat × Option Blk)) (I : Nat → α → Prop) (Ix : Exit → α → Prop) (a0 : α) (hw : Weak st (st.head (dsts (.rangeFunc g ps assign body)) (ts a0) (ms a0))) (h0 : I 0 a0)
    (hround : ∀ i a row, items[i]? = some row → I i a → ∀ l m, WalkL P (some l) m J [assign] k { t := setPs ps.toList row (st.head (dsts (.rangeFunc g ps assign body)) (ts a) (ms a)).t, m := (st.head (dsts (.rangeFunc g ps assign body)) (ts a) (ms a)).m }
      (thenA (fun k2 s => WalkL P (some l) m J [body] k2 s fun e k3 s3 => k3 = k ∧ match e with
        | .normal => ∃ a', Weak (s3.wipe (dsts (.rangeFunc g ps assign body))) (st.head (dsts (.rangeFunc g ps assign body)) (ts a') (ms a')) ∧ I (i + 1) a'
        | e => (jumpCode e).isSome ∧ ∃ a', Weak (s3.wipe (dsts (.rangeFunc g ps assign body))) (st.head (dsts (.rangeFunc g ps assign body)) (ts a') (ms a')) ∧ Ix e a') (fun _ _ _ => False)))
    (hdone : ∀ a, I items.length a → WalkL P none n J cs k (st.head (dsts (.rangeFunc g ps assign body)) (ts a) (ms a)) Q) (hstop : ∀ e a, Ix e a → (jumpCode e).isSome → Q e k (st.head (dsts (.rangeFunc g ps assign body)) (ts a) (ms a))) :
    WalkL P none n J (.rangeFunc g ps assign body :: cs) k st Q := by
  refine walkL_range hg hit hps (fun a => st.head (dsts (.rangeFunc g ps assign body)) (ts a) (ms a)) (fun k' i a => k' = k ∧ I i a) (fun e k' a => k' = k ∧ Ix e a) a0 hw ⟨rfl, h0⟩ ?_ ?_ ?_
  · rintro k' i a row hi ⟨rfl, hI⟩ l m
    refine walk_mono (hround i a row hi hI l m) fun e k2 s hq => ?_
    cases e with
    | normal =>
      refine walk_mono (walkL_one hq) fun e k3 s3 hq3 => ?_
      obtain ⟨rfl, h⟩ := hq3
      cases e with
      | normal => obtain ⟨a', h1, h2⟩ := h; exact ⟨a', h1, rfl, h2⟩
      | _ => obtain ⟨hj, a', h1, h2⟩ := h; exact ⟨hj, a', h1, rfl, h2⟩
    | _ => exact hq
  · rintro k' a ⟨rfl, hI⟩; exact hdone a hI
  · rintro e k' a ⟨rfl, hI⟩ hj; exact hstop e a hI hj

attribute [go_sem] setPs St.wipe jumpCode

end
end Go.Ab
/- Functions that are handed memory which they may write; a slice over a box; names that move. -/
namespace Go.Ab
open Go.RowKit

/-- The state in which such a function begins: what it is handed lies behind its own slots. -/
def St.startG (m0 : List Blk) (args : List AV) (nt M : Nat) : St :=
  { t := args.map (AV.mapN fun i => some (M + i)) ++ List.replicate (nt - args.length) .undef, m := List.replicate M none ++ m0.map fun b => some (b.mapN fun i => some (M + i)) }

/-- What the memory must hold at the end. -/
def blksG (s : St) (gs : List Nat) : List Nat → List Blk → Prop
  | [], [] => True
  | n :: ns, b :: bs => (match (s.m[n]? : Option (Option Blk)) with
    | some (some b') => b = b'.mapN (inv gs)
    | _ => False) ∧ blksG s gs ns bs
  | _, _ => False

/-- What is pinned: a place of the memory handed over, and the parameter that names it. -/
def pinG (m0 : List Blk) (args : List AV) (M : Nat) (s : St) : List (Nat × Nat) → Prop
  | [] => True
  | (i, p) :: l => (match args[p]?, (s.t[p]? : Option AV), m0[i]?, (s.m[M + i]? : Option (Option Blk)) with
    | some (.box i' o), some (.box n o'), some (.box _), some (some (.box _)) => i' = i ∧ n = M + i ∧ o = o'
    | some (.own i'), some (.own n), some (.arr _ z _), some (some (.arr _ z' _)) => i' = i ∧ n = M + i ∧ z = z'
    | _, _, _, _ => False) ∧ pinG m0 args M s l

/-- The names at the end. -/
def namesG (k M : Nat) (extra : List Nat) : List Nat := (List.range k).map (M + ·) ++ extra

def retG (P : Program) (rs : Array ResultVar) (m0 : List Blk) (args : List AV) (M : Nat) (extra : List Nat) (ps : List (Nat × Nat)) (r : AV) (m1 : List Blk) (ex : Exit) (_ : Option Nat) (s : St) : Prop :=
  endsOk ex ∧ bindK (resultsA P s rs) fun x => r = x.mapN (inv (namesG m0.length M extra)) ∧ blksG s (namesG m0.length M extra) (namesG m0.length M extra) m1 ∧ pinG m0 args M s ps

section
variable {P : Program} {base : Own} {out : Own} {st st' : St} {μ : Pl} {tmps : Array Value} {w w' : World}

theorem blksG_get {s : St} {gs : List Nat} : ∀ {ns : List Nat} {bs : List Blk}, blksG s gs ns bs → ns.length = bs.length ∧ ∀ (i : Nat) b, bs[i]? = some b → ∃ (n : Nat) (b' : Blk), ns[i]? = some n ∧ s.m[n]? = some (some b') ∧ b = b'.mapN (inv gs)
  | [], [], _ => ⟨rfl, fun i b h => by simp at h⟩
  | n :: ns, b :: bs, h => by
    obtain ⟨h1, h2⟩ := h
    obtain ⟨h3, h4⟩ := blksG_get h2
    refine ⟨by simp [h3], fun i b2 hi => ?_⟩
    cases i with
    | zero =>
      simp at hi; subst hi
      split at h1
      · rename_i b' hb'; exact ⟨n, b', rfl, hb', h1⟩
      · exact h1.elim
    | succ i => simpa using h4 i b2 (by simpa using hi)
  | [], _ :: _, h => h.elim
  | _ :: _, [], h => h.elim

theorem startG_rel {own : Own} {m0 : List Blk} {args : List AV} {vs : Array Value} {nt : Nat} {μ0 : Pl} (M : Nat) (hown : ∀ b, own b → base b) (hle : ∀ b, base b → b < w.heap.size) (hM : MemRel base own w μ0 (m0.map some))
    (hl : args.length = vs.size) (ha : ∀ (i : Nat) x v, args[i]? = some x → vs[i]? = some v → AVRel w (ownOf own μ0) μ0 x v) :
    StRel base own (St.startG m0 args nt M) (fun k => if M ≤ k then μ0 (k - M) else none) (vs ++ Array.replicate (nt - vs.size) undef) w := by
  have hsub : ∀ b, ownOf own (fun k => if M ≤ k then μ0 (k - M) else none) b → ownOf own μ0 b := by
    rintro b (h | ⟨n, z, l, c, h⟩)
    · exact .inl h
    · dsimp only at h; split at h
      · exact .inr ⟨_, z, l, c, h⟩
      · cases h
  have hg : Goes w (ownOf own μ0) w (ownOf own (fun k => if M ≤ k then μ0 (k - M) else none)) := fun b o v h1 h2 => ⟨fun hc => h1 (hsub b hc), h2⟩
  have hμ : ∀ n, (μ0 n).isSome → ∀ k, some (M + n) = some k → (fun k => if M ≤ k then μ0 (k - M) else none) k = μ0 n := fun n _ k hk => by cases hk; simp
  refine ⟨by simp [St.startG, hl], fun i x v hx hv => ?_, ⟨fun n b hb => ?_, fun n hn => ?_, fun n k b z l c z' l' c' h1 h2 => ?_, fun n b z l c h => ?_⟩, hown, hle⟩
  · by_cases hi : i < args.length
    · rw [St.startG, List.getElem?_append_left (by simpa using hi)] at hx
      rw [Array.getElem?_append_left (by rw [← hl]; exact hi)] at hv
      simp only [List.getElem?_map, Option.map_eq_some_iff] at hx
      obtain ⟨y, hx, rfl⟩ := hx
      exact (ha i y v hx hv).mapN (.inl hg) (fun n _ hs k hk => hμ n hs k hk)
    · rw [St.startG, List.getElem?_append_right (by simpa using Nat.le_of_not_lt hi), List.getElem?_replicate] at hx
      split at hx
      · cases hx; exact .undef v
      · cases hx
  · simp only [St.startG] at hb
    by_cases hi : n < M
    · rw [List.getElem?_append_left (by simpa using hi), List.getElem?_replicate] at hb
      split at hb <;> cases hb
    · rw [List.getElem?_append_right (by simpa using Nat.le_of_not_lt hi)] at hb
      simp only [List.length_replicate, List.getElem?_map, Option.map_eq_some_iff, Option.some.injEq] at hb
      obtain ⟨b0, hb0, rfl⟩ := hb
      exact BlkRel.mapN (n := n - M) (.inl hg) (by simp [Nat.le_of_not_lt hi]) hμ (fun _ _ _ _ _ => rfl) (hM.blk (n - M) b0 (by simp [hb0]))
  · split at hn
    · rename_i h
      obtain ⟨b, hb⟩ := hM.dom (n - M) hn
      simp only [List.getElem?_map, Option.map_eq_some_iff, Option.some.injEq] at hb
      obtain ⟨b0, hb0, rfl⟩ := hb
      exact ⟨b0.mapN fun i => some (M + i), by simp only [St.startG]; rw [List.getElem?_append_right (by simpa using h)]; simp [hb0]⟩
    · cases hn
  · split at h1
    · split at h2
      · have := hM.inj _ _ b _ _ _ _ _ _ h1 h2; omega
      · cases h2
    · cases h1
  · split at h
    · exact hM.base _ b z l c h
    · cases h

theorem pinG_spec {m0 : List Blk} {args : List AV} {M : Nat} {s : St} : ∀ {ps : List (Nat × Nat)}, pinG m0 args M s ps → ∀ i p, (i, p) ∈ ps →
    (∃ o r r', args[p]? = some (.box i o) ∧ s.t[p]? = some (.box (M + i) o) ∧ m0[i]? = some (.box r) ∧ s.m[M + i]? = some (some (.box r'))) ∨
    (∃ e e' z r r', args[p]? = some (.own i) ∧ s.t[p]? = some (.own (M + i)) ∧ m0[i]? = some (.arr e z r) ∧ s.m[M + i]? = some (some (.arr e' z r')))
  | [], _, i, p, h => by cases h
  | (j, q) :: l, h, i, p, hm => by
    obtain ⟨h1, h2⟩ := h
    rcases List.mem_cons.1 hm with e | hm
    · cases e
      split at h1
      · rename_i i' o n o' r r' e1 e2 e3 e4
        obtain ⟨rfl, rfl, rfl⟩ := h1
        exact .inl ⟨_, _, _, e1, e2, e3, e4⟩
      · rename_i e1 e2 e3 e4
        obtain ⟨rfl, rfl, rfl⟩ := h1
        exact .inr ⟨_, _, _, _, _, e1, e2, e3, e4⟩
      · exact h1.elim
    · exact pinG_spec h2 i p hm

/-- The contract of such a function out of the walk of its body. -/
theorem fnG_walk {f : FuncId} {fn : Func} {c : Code} {m0 m1 : List Blk} {args : List AV} {r : AV} (M : Nat) (he : ∀ args w, (callFunc f args).run P w = .ok (.enter f args) w) (hf : P.funcs[f]? = some fn) (hb : fn.body = some c) (h4 : fn.results.size ≤ 4)
    (extra : List Nat) (ps : List (Nat × Nat)) (hnd : (namesG m0.length M extra).Nodup) (hD : ps.all (fun q => !(dsts c).contains q.2) = true)
    (hw : ∀ J, WalkL P none 0 J [c] (some 0) (St.startG m0 args fn.ntmps M) (retG P fn.results m0 args M extra ps r m1)) : FnG P f m0 (ps.map (·.1)) args r m1 := by
  refine ⟨he, fun base w own μ0 vs hown hle hM hl ha => ?_⟩
  have hst0 := startG_rel (nt := fn.ntmps) M hown hle hM hl ha
  obtain ⟨μs, hμs⟩ : ∃ μs : Pl, μs = fun k => if M ≤ k then μ0 (k - M) else none := ⟨_, rfl⟩
  rw [← hμs] at hst0
  have hs0 : ∀ b, ownOf own μs b ↔ ownOf own μ0 b := by
    intro b
    rw [hμs]
    constructor
    · rintro (h | ⟨n, z, l, c, h⟩)
      · exact .inl h
      · dsimp only at h; split at h
        · exact .inr ⟨_, z, l, c, h⟩
        · cases h
    · rintro (h | ⟨n, z, l, c, h⟩)
      · exact .inl h
      · exact .inr ⟨M + n, z, l, c, by simp [h]⟩
  refine calls_of_walkSt hf hb h4 hst0 (walkL_one (hw fun _ b o w' => b = base ∧ o = own ∧ BelowU base w w')) (fun k b o w1 w2 q hq _ ho ⟨h1, h2, h3⟩ => ⟨h1, h2, h3.trans (ho.wrote.below (fun hc => by have := hle q hc; omega))⟩) (fun w' hB => ⟨rfl, rfl, hB⟩) ?_
  rintro e k s ⟨hend, x, hx, hr, hblk, hpin⟩
  refine ⟨hend, x, hx, ?_⟩
  rintro b o μ tmps v w' hst hv ⟨rfl, rfl, hB⟩ hstay hsame
  obtain ⟨gs, hgs⟩ : ∃ gs, gs = namesG m0.length M extra := ⟨_, rfl⟩
  rw [← hgs] at hr hblk hnd
  obtain ⟨hlg, hget⟩ := blksG_get hblk
  obtain ⟨μ1, hμ1⟩ : ∃ μ1 : Pl, μ1 = fun i => (gs[i]?).bind μ := ⟨_, rfl⟩
  have h1s : ∀ i L, μ1 i = some L → ∃ n, gs[i]? = some n ∧ μ n = some L := fun i L hi => by
    rw [hμ1] at hi
    cases hn : gs[i]? with
    | none => simp [hn] at hi
    | some n => simp [hn] at hi; exact ⟨n, rfl, hi⟩
  have h1i : ∀ i n, gs[i]? = some n → μ1 i = μ n := fun i n hi => by rw [hμ1]; simp [hi]
  have hsub : ∀ q, ownOf o μ1 q → ownOf o μ q := by
    rintro q (h | ⟨i, z, l, c, h⟩)
    · exact .inl h
    · obtain ⟨n, _, hn⟩ := h1s i _ h; exact .inr ⟨n, z, l, c, hn⟩
  have hg : Goes w' (ownOf o μ) w' (ownOf o μ1) := fun q o' u h1 h2 => ⟨fun hc => h1 (hsub q hc), h2⟩
  have hinv : ∀ n, (μ n).isSome → ∀ i, inv gs n = some i → μ1 i = μ n := fun n _ i hi => h1i i n (inv_spec hi)
  refine ⟨v, μ1, rfl, by rw [hr]; exact hv.mapN (.inl hg) (fun n _ hs k hk => hinv n hs k hk), ⟨fun i b1 hi => ?_, fun i hi => ?_, fun a k q z l c z' l' c' q1 q2 => ?_, fun i q z l c hi => ?_⟩, ⟨⟨hB, fun q ob hq hno => ?_⟩, fun q hq hno => ?_⟩, fun i hi => ?_⟩
  · simp only [List.getElem?_map, Option.map_eq_some_iff, Option.some.injEq] at hi
    obtain ⟨b2, hi, rfl⟩ := hi
    obtain ⟨n, b', e1, e2, rfl⟩ := hget i b2 hi
    exact BlkRel.mapN (.inl hg) (h1i i n e1) hinv (fun _ _ _ _ _ => rfl) (hst.mem.blk n b' e2)
  · obtain ⟨L, hL⟩ := Option.isSome_iff_exists.1 hi
    obtain ⟨n, hn, _⟩ := h1s i L hL
    have : i < m1.length := by rw [← hlg]; exact (List.getElem?_eq_some_iff.1 hn).1
    exact ⟨m1[i], by simp [this]⟩
  · obtain ⟨n, hn, e1⟩ := h1s a _ q1
    obtain ⟨n', hn', e2⟩ := h1s k _ q2
    have := hst.mem.inj n n' q _ _ _ _ _ _ e1 e2
    subst this
    exact nodup_get hnd hn hn'
  · obtain ⟨n, _, e1⟩ := h1s i _ hi
    exact hst.mem.base n q z l c e1
  · by_cases hob : ownOf o μ0 q
    · rcases hob with hob | ⟨i, z, l, c, hob⟩
      · rw [hB.block q (hown q hob)]; exact hq
      · exfalso
        obtain ⟨b1, hb1⟩ := hM.dom i (by simp [hob])
        have hbr := hM.blk i b1 hb1
        cases b1 with
        | box row => obtain ⟨b', cs, ty, e1, e2, _⟩ := hbr; rw [hob] at e1; cases e1; rw [hq] at e2; cases e2; exact hno _ _ _ rfl
        | arr e z rows =>
          rcases hbr with ⟨e1, _⟩ | ⟨b', cap, cs, e1, e2, _⟩
          · rw [hob] at e1; cases e1
          · rw [hob] at e1; cases e1; rw [hq] at e2; cases e2; exact hno _ _ _ rfl
    · rw [(hstay.2 q (Array.getElem?_eq_some_iff.1 hq).1 (fun hc => hob ((hs0 q).1 hc))).1]; exact hq
  · obtain ⟨e1, e2⟩ := hstay.2 q hq (fun hc => hno ((hs0 q).1 hc))
    exact ⟨e1, fun hc => e2 (hsub q hc)⟩
  · obtain ⟨⟨i', p⟩, hm, rfl⟩ := List.mem_map.1 hi
    have hpD : p ∉ dsts c := by
      have := List.all_eq_true.1 hD _ hm
      simpa using this
    have hgi : ∀ i, i < m0.length → gs[i]? = some (M + i) := fun i hi => by
      rw [hgs, namesG, List.getElem?_append_left (by simpa using hi)]; simp [hi]
    rcases pinG_spec hpin i' p hm with ⟨o1, r1, r2, e1, e2, e3, e4⟩ | ⟨e0, e0', z, r1, r2, e1, e2, e3, e4⟩
    · have hplt : p < vs.size := by rw [← hl]; exact (List.getElem?_eq_some_iff.1 e1).1
      have hvp : vs[p]? = some vs[p] := by simp [hplt]
      obtain ⟨b1, z1, l1, c1, f1, f2⟩ := inv_box (ha p _ _ e1 hvp)
      have htp : tmps[p]? = some vs[p] := by rw [hsame.2 p hpD, Array.getElem?_append_left hplt, hvp]
      obtain ⟨b2, z2, l2, c2, f3, f4⟩ := inv_box (hst.tmp p _ _ e2 htp)
      rw [f2] at f4
      simp only [Value.pointer.injEq, Option.some.injEq, Addr.mk.injEq] at f4
      obtain ⟨b3, cs, ty, f5, _⟩ := (hM.blk i' (.box r1) (by simp [e3]) : ∃ b cs ty, _)
      obtain ⟨b4, cs', ty', f6, _⟩ := hst.mem.blk (M + i') _ e4
      rw [h1i i' (M + i') (hgi i' (List.getElem?_eq_some_iff.1 e3).1), f3, f1]
      rw [f1] at f5; cases f5
      rw [f3] at f6; cases f6
      rw [f4.1]
    · have hplt : p < vs.size := by rw [← hl]; exact (List.getElem?_eq_some_iff.1 e1).1
      have hvp : vs[p]? = some vs[p] := by simp [hplt]
      have htp : tmps[p]? = some vs[p] := by rw [hsame.2 p hpD, Array.getElem?_append_left hplt, hvp]
      have hA := inv_own (ha p _ _ e1 hvp)
      have hB' := inv_own (hst.tmp p _ _ e2 htp)
      rw [h1i i' (M + i') (hgi i' (List.getElem?_eq_some_iff.1 e3).1)]
      have hb1 := hM.blk i' (.arr e0 z r1) (by simp [e3])
      have hb2 := hst.mem.blk (M + i') _ e4
      rcases hA with ⟨f1, f2⟩ | ⟨b1, z1, l1, c1, f1, f2⟩
      · rcases hB' with ⟨f3, _⟩ | ⟨b2, z2, l2, c2, f3, f4⟩
        · rw [f1, f3]
        · rw [f2] at f4; cases f4
      · rcases hB' with ⟨f3, f4⟩ | ⟨b2, z2, l2, c2, f3, f4⟩
        · rw [f2] at f4; cases f4
        · rw [f2] at f4
          cases f4
          rcases hb1 with ⟨g1, _⟩ | ⟨_, _, _, g1, _⟩
          · rw [f1] at g1; cases g1
          · rcases hb2 with ⟨g2, _⟩ | ⟨_, _, _, g2, _⟩
            · rw [f3] at g2; cases g2
            · rw [f1] at g1
              rw [f3] at g2
              simp only [Option.some.injEq, Loc.at.injEq] at g1 g2
              rw [f1, f3, g1.2.1, g2.2.1]

end
end Go.Ab
/- Names that move; a slice as a box that it lies over. -/
namespace Go.Ab
open Go.RowKit

/-- One name for another. -/
def mv (a b : Nat) (k : Nat) : Option Nat := if k = a then some b else some k

/-- What is named a lies from now on behind all names. -/
def St.move (a : Nat) (st : St) : St := match (st.m[a]? : Option (Option Blk)) with
  | some (some b) => { t := st.t.map (AV.mapN (mv a st.m.length)), m := (st.m.map (Option.map (Blk.mapN (mv a st.m.length)))).set a none ++ [some (b.mapN (mv a st.m.length))] }
  | _ => st

/-- The slice over what is named n, as a slice over a box. -/
def boxed (len : Nat) : AV → AV
  | .own n => .bsl n len
  | .elem n i o => .box n (i + o)
  | _ => .undef

def rowOne : List DV → AV
  | [d] => .d d
  | _ => .undef

def St.boxes (n : Nat) (st : St) : St := match (st.m[n]? : Option (Option Blk)) with
  | some (some (.arr _ 1 (r :: rows))) => { t := st.t.map (AV.sub n (boxed (r :: rows).length)), m := (subMem n (boxed (r :: rows).length) st.m).set n (some (.box ((r :: rows).map rowOne))) }
  | _ => st

section
variable {base : Own} {out : Own} {st st' : St} {μ : Pl} {tmps : Array Value} {w w' : World}

theorem weak_move (a : Nat) (st : St) : Weak st (st.move a) := by
  intro base out μ tmps w h
  unfold St.move
  split
  · rename_i b hb
    obtain ⟨L, hL⟩ : ∃ L, L = st.m.length := ⟨_, rfl⟩
    rw [← hL]
    have hlt : a < L := by rw [hL]; exact (List.getElem?_eq_some_iff.1 hb).1
    have hno : ∀ k, (μ k).isSome → k < L := fun k hk => by
      obtain ⟨b, hb⟩ := h.mem.dom k hk
      rw [hL]; exact (List.getElem?_eq_some_iff.1 hb).1
    obtain ⟨μ', hμ'⟩ : ∃ μ' : Pl, μ' = fun k => if k = L then μ a else if k = a then none else μ k := ⟨_, rfl⟩
    have hs : ∀ k L', μ' k = some L' → (k = L ∧ μ a = some L') ∨ (k ≠ L ∧ k ≠ a ∧ μ k = some L') := by
      intro k L' hk
      rw [hμ'] at hk
      dsimp only at hk
      split at hk
      · rename_i e; exact .inl ⟨e, hk⟩
      · split at hk
        · cases hk
        · rename_i e1 e2; exact .inr ⟨e1, e2, hk⟩
    have hsub : ∀ b, ownOf out μ' b → ownOf out μ b := by
      rintro b (h | ⟨n, z, l, c, h⟩)
      · exact .inl h
      · rcases hs n _ h with ⟨_, h⟩ | ⟨_, _, h⟩
        · exact .inr ⟨a, z, l, c, h⟩
        · exact .inr ⟨n, z, l, c, h⟩
    have hg : Goes w (ownOf out μ) w (ownOf out μ') := fun b o v h1 h2 => ⟨fun hc => h1 (hsub b hc), h2⟩
    have hmv : ∀ n, (μ n).isSome → ∀ k, mv a L n = some k → μ' k = μ n := by
      intro n hn k hk
      have := hno n hn
      unfold mv at hk
      rw [hμ']
      split at hk
      · rename_i e; cases hk; subst e; simp
      · rename_i e
        cases hk
        simp only
        rw [if_neg (by omega), if_neg e]
    refine ⟨μ', ⟨by rw [h.size]; simp, fun i x v hx hv => ?_, ⟨fun k b' hk => ?_, fun k hk => ?_, fun k1 k2 b' z l c z' l' c' h1 h2 => ?_, fun k b' z l c hk => ?_⟩, h.out, h.le⟩, hsub⟩
    · simp only [List.getElem?_map, Option.map_eq_some_iff] at hx
      obtain ⟨y, hx, rfl⟩ := hx
      exact (h.tmp i y v hx hv).mapN (.inl hg) (fun n _ hn k hk => hmv n hn k hk)
    · dsimp only at hk
      rcases Nat.lt_or_ge k L with hkl | hkl
      · rw [List.getElem?_append_left (by simp [← hL, hkl]), List.getElem?_set] at hk
        split at hk
        · split at hk <;> cases hk
        · rename_i hka
          simp only [List.getElem?_map, Option.map_eq_some_iff] at hk
          obtain ⟨ob, hob, b0, rfl, rfl⟩ := hk
          exact BlkRel.mapN (.inl hg) (by rw [hμ']; simp only; rw [if_neg (by omega), if_neg (Ne.symm hka)]) hmv (fun _ _ _ _ _ => rfl) (h.mem.blk k b0 hob)
      · rw [List.getElem?_append_right (by simp [← hL, hkl])] at hk
        simp only [List.length_set, List.length_map, ← hL] at hk
        have hk0 : k = L := by
          rcases Nat.eq_or_lt_of_le hkl with e | e
          · exact e.symm
          · rw [List.getElem?_eq_none (by simp; omega)] at hk; cases hk
        subst hk0
        simp at hk
        subst hk
        exact BlkRel.mapN (n := a) (.inl hg) (by rw [hμ']; simp) hmv (fun _ _ _ _ _ => rfl) (h.mem.blk a b hb)
    · obtain ⟨L', hL'⟩ := Option.isSome_iff_exists.1 hk
      rcases hs k L' hL' with ⟨rfl, _⟩ | ⟨hkl, hka, hk'⟩
      · exact ⟨b.mapN (mv a k), by rw [List.getElem?_append_right (by simp [← hL])]; simp [← hL]⟩
      · obtain ⟨b', hb'⟩ := h.mem.dom k (by simp [hk'])
        have hkl' := hno k (by simp [hk'])
        refine ⟨b'.mapN (mv a L), ?_⟩
        rw [List.getElem?_append_left (by simp [← hL, hkl']), List.getElem?_set_ne (Ne.symm hka)]
        simp [hb']
    · rcases hs k1 _ h1 with ⟨rfl, e1⟩ | ⟨e1, e1a, e1b⟩
      · rcases hs k2 _ h2 with ⟨rfl, _⟩ | ⟨_, e2a, e2b⟩
        · rfl
        · exact absurd (h.mem.inj a k2 b' _ _ _ _ _ _ e1 e2b).symm e2a
      · rcases hs k2 _ h2 with ⟨rfl, e2⟩ | ⟨_, e2a, e2b⟩
        · exact absurd (h.mem.inj k1 a b' _ _ _ _ _ _ e1b e2) e1a
        · exact h.mem.inj k1 k2 b' _ _ _ _ _ _ e1b e2b
    · rcases hs k _ hk with ⟨_, e⟩ | ⟨_, _, e⟩
      · exact h.mem.base a b' z l c e
      · exact h.mem.base k b' z l c e
  · exact ⟨μ, h, fun _ hb => hb⟩

theorem weak_boxes (n : Nat) (st : St) : Weak st (st.boxes n) := by
  intro base out μ tmps w h
  unfold St.boxes
  split
  · rename_i e r rows hn
    obtain ⟨rs, hrs⟩ : ∃ rs, rs = r :: rows := ⟨_, rfl⟩
    rw [← hrs] at hn ⊢
    rcases h.mem.arr hn with ⟨_, h0⟩ | ⟨b, cap, cs, hμ, hh, hle, hcm, hcs, hz, hd⟩
    · rw [hrs] at h0; cases h0
    have hlt : n < st.m.length := (List.getElem?_eq_some_iff.1 hn).1
    have hsml : ∀ (m : List (Option Blk)) f, (subMem n f m).length = m.length := by
      intro m f
      induction m with
      | nil => rfl
      | cons x xs ih => cases x <;> simp [subMem, ih]
    have hsub : ∀ q, ownOf out (μ.upd n (some (.at b 0 1 1))) q → ownOf out μ q := by
      rintro q (hq | ⟨k, z, l, c, hq⟩)
      · exact .inl hq
      · by_cases hk : k = n
        · subst hk; rw [Pl.upd_same] at hq; cases hq; exact .inr ⟨k, _, _, _, hμ⟩
        · rw [Pl.upd_ne μ _ hk] at hq; exact .inr ⟨k, z, l, c, hq⟩
    have hg : Goes w (ownOf out μ) w (ownOf out (μ.upd n (some (.at b 0 1 1)))) := fun q o v h1 h2 => ⟨fun hc => h1 (hsub q hc), h2⟩
    refine ⟨μ.upd n (some (.at b 0 1 1)), ?_, hsub⟩
    refine h.turn (n := n) (f := boxed rs.length) hg (fun k hk => Pl.upd_ne μ _ hk) (fun y u hy hr => ?_) (fun _ _ _ _ _ _ _ => rfl) (Nat.le_refl _)
      (fun k hk => by rw [List.getElem?_set_ne (Ne.symm hk), subMem_get]) (fun b' hb' => ?_) (fun _ => ⟨.box (rs.map rowOne), by rw [List.getElem?_set_self (by rw [hsml]; exact hlt)]⟩) (fun b' z l c hb' => ?_)
    · cases y <;> simp only [AV.name?, Option.some.injEq, reduceCtorEq] at hy <;> subst hy <;> simp only [boxed] <;> try exact .undef _
      · rename_i k i off
        obtain ⟨b2, z2, l2, c2, h1, rfl⟩ := inv_elem hr
        rw [hμ] at h1; cases h1
        rw [Nat.mul_one]
        exact .box _ (Pl.upd_same μ _ _)
      · rename_i k
        rcases inv_own hr with ⟨h1, _⟩ | ⟨b2, z2, l2, c2, h1, rfl⟩
        · rw [hμ] at h1; cases h1
        · rw [hμ] at h1; cases h1
          exact .bsl _ _ (Pl.upd_same μ _ _) hle
    · rw [List.getElem?_set_self (by rw [hsml]; exact hlt)] at hb'
      cases hb'
      refine ⟨b, cs, e, Pl.upd_same μ n _, hh, by rw [List.length_map, hcs]; omega, fun j x v hx hv => ?_⟩
      simp only [List.getElem?_map, Option.map_eq_some_iff] at hx
      obtain ⟨r', hr', rfl⟩ := hx
      have hl1 := hz r' (List.mem_of_getElem? hr')
      obtain ⟨d, rfl⟩ : ∃ d, r' = [d] := by
        match r', hl1 with
        | [d], _ => exact ⟨d, rfl⟩
      obtain ⟨u, h1, h2, h3⟩ := hd j [d] 0 d hr' rfl
      simp only [Nat.mul_one, Nat.add_zero] at h1
      rw [h1] at hv; cases hv
      exact ⟨h2, .d (h3.goes hg)⟩
    · rw [Pl.upd_same] at hb'; cases hb'
      exact ⟨h.mem.base n b _ _ _ hμ, fun k z' l' c' hk hc => hk (h.mem.inj k n b _ _ _ _ _ _ hc hμ)⟩
  · exact ⟨μ, h, fun _ hb => hb⟩

end

theorem walkL_move {P : Program} {rd : Option Nat} {n : Nat} {J : Env} {c : Code} {cs : List Code} {k : Option Nat} {st : St} {Q : Exit → Option Nat → St → Prop} (a : Nat) (h : WalkL P rd n J (c :: cs) k (st.move a) Q) : WalkL P rd n J (c :: cs) k st Q :=
  walkL_weak (weak_move a st) h

theorem walkL_boxes {P : Program} {rd : Option Nat} {n : Nat} {J : Env} {c : Code} {cs : List Code} {k : Option Nat} {st : St} {Q : Exit → Option Nat → St → Prop} (a : Nat) (h : WalkL P rd n J (c :: cs) k (st.boxes a) Q) : WalkL P rd n J (c :: cs) k st Q :=
  walkL_weak (weak_boxes a st) h

/-- Ways that meet behind a piece of code: what is so there of each. -/
theorem walkL_meetS {P : Program} {rd : Option Nat} {n : Nat} {J : Env} {c c2 : Code} {cs : List Code} {k : Option Nat} {st : St} {Q : Exit → Option Nat → St → Prop} (ts : List (Nat × AV)) (ms : List (Nat × Option Blk))
    (h : WalkL P rd n J [c] k st (thenA (fun k' s => k' = k ∧ Weak s (st.head (dsts c) ts ms)) Q)) (h' : WalkL P rd n J (c2 :: cs) k (st.head (dsts c) ts ms) Q) : WalkL P rd n J (c :: c2 :: cs) k st Q :=
  walk_mono (walkL_one h) fun e k' s hq => by
    cases e <;> first | exact hq | skip
    obtain ⟨rfl, hw⟩ := hq
    exact walkL_weak hw h'

theorem walkL_moveL {P : Program} {rd : Option Nat} {n : Nat} {J : Env} {c : Code} {cs : List Code} {k : Option Nat} {st : St} {Q : Exit → Option Nat → St → Prop} (a L : Nat) (hL : st.m.length = L) (b : Blk) (hb : st.m[a]? = some (some b))
    (h : WalkL P rd n J (c :: cs) k { t := st.t.map (AV.mapN (mv a L)), m := (st.m.map (Option.map (Blk.mapN (mv a L)))).set a none ++ [some (b.mapN (mv a L))] } Q) : WalkL P rd n J (c :: cs) k st Q := by
  refine walkL_move a ?_
  subst hL
  unfold St.move
  rw [hb]
  exact h

/-- The head of a loop in which the memory behind all names grows. -/
def St.headT (L : Nat) (st : St) (ds : List Nat) (ts : List (Nat × AV)) (ms : List (Nat × Option Blk)) (tl : List (Option Blk)) : St := { t := setsT ts (wipeT ds st.t), m := setsM ms (wipeM ds (st.m.take L)) ++ tl }

theorem walkL_loopT {P : Program} {rd : Option Nat} {n : Nat} {J : Env} {c : Code} {cs : List Code} {k : Option Nat} {st : St} {Q : Exit → Option Nat → St → Prop} {α : Type} (L : Nat) (ts : α → List (Nat × AV)) (ms : α → List (Nat × Option Blk)) (tl : α → List (Option Blk)) (I : α → Prop) (m : α → Nat) (a : α)
    (hw : Weak st (st.headT L (dsts c) (ts a) (ms a) (tl a))) (h0 : I a)
    (h : ∀ a, I a → WalkL P rd n J [c] k (st.headT L (dsts c) (ts a) (ms a) (tl a)) (thenA (fun k' s => k' = k ∧ ∃ a', Weak s (st.headT L (dsts c) (ts a') (ms a') (tl a')) ∧ I a' ∧ m a' < m a) (thenA (fun k s => WalkL P rd n J cs k s Q) Q))) : WalkL P rd n J (.loop c :: cs) k st Q :=
  walkL_loop (fun a => st.headT L (dsts c) (ts a) (ms a) (tl a)) I m a hw h0 h

/-- Every value as it is handed over. -/
def argsG (st : St) (ns rd : List Nat) : List AV → List AV → Prop
  | x :: xs, y :: ys => argG st ns rd x y ∧ argsG st ns rd xs ys
  | _, _ => True

theorem argG_ren {st : St} {ns rd : List Nat} {x y : AV} (h : y = x.mapN (inv ns)) : argG st ns rd x y := .inr h
theorem argG_deep {st : St} {ns rd : List Nat} {x : AV} {d : DV} (h : reify st.m deep x = some d) (hr : x.refs.all (fun n => rd.contains n) = true) : argG st ns rd x (.d d) :=
  .inl ⟨d, rfl, h, fun n hn => by simpa using List.all_eq_true.1 hr n hn⟩

theorem argG_all {st : St} {ns rd : List Nat} : ∀ {xs ys : List AV}, argsG st ns rd xs ys → ∀ (i : Nat) x y, xs[i]? = some x → ys[i]? = some y → argG st ns rd x y
  | [], _, _, i, x, y, h, _ => by simp at h
  | _ :: _, [], _, i, x, y, _, h => by simp at h
  | x0 :: xs, y0 :: ys, h, i, x, y, h1, h2 => by
    cases i with
    | zero => simp at h1 h2; subst h1; subst h2; exact h.1
    | succ i => simp at h1 h2; exact argG_all h.2 i x y h1 h2

theorem lessT_refl (news : List Nat) : ∀ l : List AV, lessT news l l
  | [] => trivial
  | _ :: l => ⟨.inr (.inl rfl), lessT_refl news l⟩

theorem mv_eq (a b k : Nat) : mv a b k = some (bif k == a then b else k) := by
  unfold mv
  by_cases h : k = a
  · simp [h]
  · rw [if_neg h, show (k == a) = false by simpa using h]; rfl

attribute [go_sem] St.headT St.move St.boxes boxed rowOne AV.mapN AV.mapN.AV.mapNs Blk.mapN St.startG retG blksG pinG namesG inv kp St.keep putM mv_eq AV.flatA AV.flatA.AV.flatAs Blk.flatB
attribute [go_sem] Bool.true_or Bool.or_true Bool.false_or Bool.or_false if_true if_false ite_true ite_false Option.map_some Option.map_none Option.bind_some Option.isNone_none Option.isNone_some Option.getD_some Option.some.injEq Prod.mk.injEq List.length_cons List.length_nil List.map_cons List.map_nil List.drop_succ_cons List.take_succ_cons List.drop_zero List.take_zero
attribute [go_sem] List.cons_append List.nil_append List.append_nil and_true true_and Bool.false_eq_true decide_true decide_false Bool.not_true Bool.not_false Bool.and_true Bool.and_false Bool.true_and Bool.false_and beq_self_eq_true Nat.zero_add Nat.le_refl List.all_cons List.all_nil List.any_cons List.any_nil decide_eq_true_eq decide_eq_false_iff_not Bool.and_eq_true
attribute [go_sem] Option.toList_some Option.toList_none cond_true cond_false List.flatMap_cons List.flatMap_nil List.reverse_cons List.reverse_nil List.replicate_succ List.replicate_zero List.length_map List.length_append List.length_replicate List.range_zero List.contains_nil List.size_toArray false_or or_false true_or or_true bool_beq
attribute [go_sem] Nat.reduceAdd Nat.reduceSub Nat.reduceMul Nat.reducePow Int.reducePow Int.cast_ofNat_Int Nat.reduceLeDiff Nat.reduceEqDiff Nat.reduceLT Nat.reduceBEq Int.reduceBEq Int.reduceBNe Int.reduceEq Int.reduceLE Int.reduceLT Int.reduceNeg Int.reduceToNat reduceIte reduceCtorEq

end Go.Ab
/- The program's type table, as the engine asks for it. -/
namespace Go.Ab
open Go.RowKit Go.Proofs

theorem tab_tsz_0 : tsz Try.prog 0 = (some 1) := by kernel_rfl
attribute [go_sem] tab_tsz_0
theorem tab_tbytes_0 : tbytes Try.prog 0 = (some 0) := by kernel_rfl
attribute [go_sem] tab_tbytes_0
theorem tab_tagg_0 : tagg Try.prog 0 = (some false) := by kernel_rfl
attribute [go_sem] tab_tagg_0
theorem tab_tsz_1 : tsz Try.prog 1 = (some 1) := by kernel_rfl
attribute [go_sem] tab_tsz_1
theorem tab_tbytes_1 : tbytes Try.prog 1 = (some 8) := by kernel_rfl
attribute [go_sem] tab_tbytes_1
theorem tab_tagg_1 : tagg Try.prog 1 = (some false) := by kernel_rfl
attribute [go_sem] tab_tagg_1
theorem tab_tsz_2 : tsz Try.prog 2 = (some 1) := by kernel_rfl
attribute [go_sem] tab_tsz_2
theorem tab_tbytes_2 : tbytes Try.prog 2 = (some 8) := by kernel_rfl
attribute [go_sem] tab_tbytes_2
theorem tab_tagg_2 : tagg Try.prog 2 = (some false) := by kernel_rfl
attribute [go_sem] tab_tagg_2
theorem tab_tint_2 : tint Try.prog 2 = (some IntKind.i64) := by kernel_rfl
attribute [go_sem] tab_tint_2
theorem tab_tsz_3 : tsz Try.prog 3 = (some 1) := by kernel_rfl
attribute [go_sem] tab_tsz_3
theorem tab_tbytes_3 : tbytes Try.prog 3 = (some 8) := by kernel_rfl
attribute [go_sem] tab_tbytes_3
theorem tab_tagg_3 : tagg Try.prog 3 = (some false) := by kernel_rfl
attribute [go_sem] tab_tagg_3
theorem tab_tint_3 : tint Try.prog 3 = (some IntKind.i64) := by kernel_rfl
attribute [go_sem] tab_tint_3
theorem tab_tsz_4 : tsz Try.prog 4 = (some 1) := by kernel_rfl
attribute [go_sem] tab_tsz_4
theorem tab_tbytes_4 : tbytes Try.prog 4 = (some 1) := by kernel_rfl
attribute [go_sem] tab_tbytes_4
theorem tab_tagg_4 : tagg Try.prog 4 = (some false) := by kernel_rfl
attribute [go_sem] tab_tagg_4
theorem tab_tsz_5 : tsz Try.prog 5 = (some 1) := by kernel_rfl
attribute [go_sem] tab_tsz_5
theorem tab_tbytes_5 : tbytes Try.prog 5 = (some 1) := by kernel_rfl
attribute [go_sem] tab_tbytes_5
theorem tab_tagg_5 : tagg Try.prog 5 = (some false) := by kernel_rfl
attribute [go_sem] tab_tagg_5
theorem tab_tint_5 : tint Try.prog 5 = (some IntKind.u8) := by kernel_rfl
attribute [go_sem] tab_tint_5
theorem tab_tsz_6 : tsz Try.prog 6 = (some 1) := by kernel_rfl
attribute [go_sem] tab_tsz_6
theorem tab_tbytes_6 : tbytes Try.prog 6 = (some 1) := by kernel_rfl
attribute [go_sem] tab_tbytes_6
theorem tab_tagg_6 : tagg Try.prog 6 = (some false) := by kernel_rfl
attribute [go_sem] tab_tagg_6
theorem tab_tint_6 : tint Try.prog 6 = (some IntKind.u8) := by kernel_rfl
attribute [go_sem] tab_tint_6
theorem tab_tsz_7 : tsz Try.prog 7 = (some 4) := by kernel_rfl
attribute [go_sem] tab_tsz_7
theorem tab_tbytes_7 : tbytes Try.prog 7 = (some 24) := by kernel_rfl
attribute [go_sem] tab_tbytes_7
theorem tab_tagg_7 : tagg Try.prog 7 = (some true) := by kernel_rfl
attribute [go_sem] tab_tagg_7
theorem tab_tfields_7 : tfields Try.prog 7 = (some [(0, (1, false)), (1, (1, false)), (2, (1, false)), (3, (1, false))]) := by kernel_rfl
attribute [go_sem] tab_tfields_7
theorem tab_tsz_8 : tsz Try.prog 8 = (some 4) := by kernel_rfl
attribute [go_sem] tab_tsz_8
theorem tab_tbytes_8 : tbytes Try.prog 8 = (some 24) := by kernel_rfl
attribute [go_sem] tab_tbytes_8
theorem tab_tagg_8 : tagg Try.prog 8 = (some true) := by kernel_rfl
attribute [go_sem] tab_tagg_8
theorem tab_tfields_8 : tfields Try.prog 8 = (some [(0, (1, false)), (1, (1, false)), (2, (1, false)), (3, (1, false))]) := by kernel_rfl
attribute [go_sem] tab_tfields_8
theorem tab_tsz_9 : tsz Try.prog 9 = (some 1) := by kernel_rfl
attribute [go_sem] tab_tsz_9
theorem tab_tbytes_9 : tbytes Try.prog 9 = (some 16) := by kernel_rfl
attribute [go_sem] tab_tbytes_9
theorem tab_tagg_9 : tagg Try.prog 9 = (some false) := by kernel_rfl
attribute [go_sem] tab_tagg_9
theorem tab_tsz_10 : tsz Try.prog 10 = (some 1) := by kernel_rfl
attribute [go_sem] tab_tsz_10
theorem tab_tbytes_10 : tbytes Try.prog 10 = (some 16) := by kernel_rfl
attribute [go_sem] tab_tbytes_10
theorem tab_tagg_10 : tagg Try.prog 10 = (some false) := by kernel_rfl
attribute [go_sem] tab_tagg_10
theorem tab_tsz_11 : tsz Try.prog 11 = (some 1) := by kernel_rfl
attribute [go_sem] tab_tsz_11
theorem tab_tbytes_11 : tbytes Try.prog 11 = (some 16) := by kernel_rfl
attribute [go_sem] tab_tbytes_11
theorem tab_tagg_11 : tagg Try.prog 11 = (some false) := by kernel_rfl
attribute [go_sem] tab_tagg_11
theorem tab_tsz_12 : tsz Try.prog 12 = (some 1) := by kernel_rfl
attribute [go_sem] tab_tsz_12
theorem tab_tbytes_12 : tbytes Try.prog 12 = (some 8) := by kernel_rfl
attribute [go_sem] tab_tbytes_12
theorem tab_tagg_12 : tagg Try.prog 12 = (some false) := by kernel_rfl
attribute [go_sem] tab_tagg_12
theorem tab_tint_12 : tint Try.prog 12 = (some IntKind.u64) := by kernel_rfl
attribute [go_sem] tab_tint_12
theorem tab_tsz_13 : tsz Try.prog 13 = (some 2) := by kernel_rfl
attribute [go_sem] tab_tsz_13
theorem tab_tbytes_13 : tbytes Try.prog 13 = (some 24) := by kernel_rfl
attribute [go_sem] tab_tbytes_13
theorem tab_tagg_13 : tagg Try.prog 13 = (some true) := by kernel_rfl
attribute [go_sem] tab_tagg_13
theorem tab_tfields_13 : tfields Try.prog 13 = (some [(0, (1, false)), (1, (1, false))]) := by kernel_rfl
attribute [go_sem] tab_tfields_13
theorem tab_tsz_14 : tsz Try.prog 14 = (some 2) := by kernel_rfl
attribute [go_sem] tab_tsz_14
theorem tab_tbytes_14 : tbytes Try.prog 14 = (some 24) := by kernel_rfl
attribute [go_sem] tab_tbytes_14
theorem tab_tagg_14 : tagg Try.prog 14 = (some true) := by kernel_rfl
attribute [go_sem] tab_tagg_14
theorem tab_tfields_14 : tfields Try.prog 14 = (some [(0, (1, false)), (1, (1, false))]) := by kernel_rfl
attribute [go_sem] tab_tfields_14
theorem tab_tsz_15 : tsz Try.prog 15 = (some 1) := by kernel_rfl
attribute [go_sem] tab_tsz_15
theorem tab_tbytes_15 : tbytes Try.prog 15 = (some 8) := by kernel_rfl
attribute [go_sem] tab_tbytes_15
theorem tab_tagg_15 : tagg Try.prog 15 = (some false) := by kernel_rfl
attribute [go_sem] tab_tagg_15
theorem tab_tsz_16 : tsz Try.prog 16 = (some 1) := by kernel_rfl
attribute [go_sem] tab_tsz_16
theorem tab_tbytes_16 : tbytes Try.prog 16 = (some 8) := by kernel_rfl
attribute [go_sem] tab_tbytes_16
theorem tab_tagg_16 : tagg Try.prog 16 = (some false) := by kernel_rfl
attribute [go_sem] tab_tagg_16
theorem tab_tsz_17 : tsz Try.prog 17 = (some 1) := by kernel_rfl
attribute [go_sem] tab_tsz_17
theorem tab_tbytes_17 : tbytes Try.prog 17 = (some 8) := by kernel_rfl
attribute [go_sem] tab_tbytes_17
theorem tab_tagg_17 : tagg Try.prog 17 = (some false) := by kernel_rfl
attribute [go_sem] tab_tagg_17
theorem tab_tsz_18 : tsz Try.prog 18 = (some 1) := by kernel_rfl
attribute [go_sem] tab_tsz_18
theorem tab_tbytes_18 : tbytes Try.prog 18 = (some 8) := by kernel_rfl
attribute [go_sem] tab_tbytes_18
theorem tab_tagg_18 : tagg Try.prog 18 = (some true) := by kernel_rfl
attribute [go_sem] tab_tagg_18
theorem tab_tfields_18 : tfields Try.prog 18 = (some [(0, (1, false))]) := by kernel_rfl
attribute [go_sem] tab_tfields_18
theorem tab_tsz_19 : tsz Try.prog 19 = (some 1) := by kernel_rfl
attribute [go_sem] tab_tsz_19
theorem tab_tbytes_19 : tbytes Try.prog 19 = (some 8) := by kernel_rfl
attribute [go_sem] tab_tbytes_19
theorem tab_tagg_19 : tagg Try.prog 19 = (some true) := by kernel_rfl
attribute [go_sem] tab_tagg_19
theorem tab_tfields_19 : tfields Try.prog 19 = (some [(0, (1, false))]) := by kernel_rfl
attribute [go_sem] tab_tfields_19
theorem tab_tsz_20 : tsz Try.prog 20 = (some 1) := by kernel_rfl
attribute [go_sem] tab_tsz_20
theorem tab_tbytes_20 : tbytes Try.prog 20 = (some 16) := by kernel_rfl
attribute [go_sem] tab_tbytes_20
theorem tab_tagg_20 : tagg Try.prog 20 = (some false) := by kernel_rfl
attribute [go_sem] tab_tagg_20
theorem tab_tsz_21 : tsz Try.prog 21 = (some 1) := by kernel_rfl
attribute [go_sem] tab_tsz_21
theorem tab_tbytes_21 : tbytes Try.prog 21 = (some 4) := by kernel_rfl
attribute [go_sem] tab_tbytes_21
theorem tab_tagg_21 : tagg Try.prog 21 = (some false) := by kernel_rfl
attribute [go_sem] tab_tagg_21
theorem tab_tint_21 : tint Try.prog 21 = (some IntKind.i32) := by kernel_rfl
attribute [go_sem] tab_tint_21
theorem tab_tsz_22 : tsz Try.prog 22 = (some 1) := by kernel_rfl
attribute [go_sem] tab_tsz_22
theorem tab_tbytes_22 : tbytes Try.prog 22 = (some 24) := by kernel_rfl
attribute [go_sem] tab_tbytes_22
theorem tab_tagg_22 : tagg Try.prog 22 = (some false) := by kernel_rfl
attribute [go_sem] tab_tagg_22
theorem tab_tslice_22 : tslice Try.prog 22 = (some 49) := by kernel_rfl
attribute [go_sem] tab_tslice_22
theorem tab_tsz_23 : tsz Try.prog 23 = (some 2) := by kernel_rfl
attribute [go_sem] tab_tsz_23
theorem tab_tbytes_23 : tbytes Try.prog 23 = (some 32) := by kernel_rfl
attribute [go_sem] tab_tbytes_23
theorem tab_tagg_23 : tagg Try.prog 23 = (some true) := by kernel_rfl
attribute [go_sem] tab_tagg_23
theorem tab_tfields_23 : tfields Try.prog 23 = (some [(0, (1, false)), (1, (1, false))]) := by kernel_rfl
attribute [go_sem] tab_tfields_23
theorem tab_tsz_24 : tsz Try.prog 24 = (some 2) := by kernel_rfl
attribute [go_sem] tab_tsz_24
theorem tab_tbytes_24 : tbytes Try.prog 24 = (some 32) := by kernel_rfl
attribute [go_sem] tab_tbytes_24
theorem tab_tagg_24 : tagg Try.prog 24 = (some true) := by kernel_rfl
attribute [go_sem] tab_tagg_24
theorem tab_tfields_24 : tfields Try.prog 24 = (some [(0, (1, false)), (1, (1, false))]) := by kernel_rfl
attribute [go_sem] tab_tfields_24
theorem tab_tsz_25 : tsz Try.prog 25 = (some 2) := by kernel_rfl
attribute [go_sem] tab_tsz_25
theorem tab_tbytes_25 : tbytes Try.prog 25 = (some 16) := by kernel_rfl
attribute [go_sem] tab_tbytes_25
theorem tab_tagg_25 : tagg Try.prog 25 = (some true) := by kernel_rfl
attribute [go_sem] tab_tagg_25
theorem tab_tfields_25 : tfields Try.prog 25 = (some [(0, (1, false)), (1, (1, false))]) := by kernel_rfl
attribute [go_sem] tab_tfields_25
theorem tab_tsz_26 : tsz Try.prog 26 = (some 2) := by kernel_rfl
attribute [go_sem] tab_tsz_26
theorem tab_tbytes_26 : tbytes Try.prog 26 = (some 16) := by kernel_rfl
attribute [go_sem] tab_tbytes_26
theorem tab_tagg_26 : tagg Try.prog 26 = (some true) := by kernel_rfl
attribute [go_sem] tab_tagg_26
theorem tab_tfields_26 : tfields Try.prog 26 = (some [(0, (1, false)), (1, (1, false))]) := by kernel_rfl
attribute [go_sem] tab_tfields_26
theorem tab_tsz_27 : tsz Try.prog 27 = (some 4) := by kernel_rfl
attribute [go_sem] tab_tsz_27
theorem tab_tbytes_27 : tbytes Try.prog 27 = (some 32) := by kernel_rfl
attribute [go_sem] tab_tbytes_27
theorem tab_tagg_27 : tagg Try.prog 27 = (some true) := by kernel_rfl
attribute [go_sem] tab_tagg_27
theorem tab_tfields_27 : tfields Try.prog 27 = (some [(0, (1, false)), (1, (1, false)), (2, (2, true))]) := by kernel_rfl
attribute [go_sem] tab_tfields_27
theorem tab_tsz_28 : tsz Try.prog 28 = (some 4) := by kernel_rfl
attribute [go_sem] tab_tsz_28
theorem tab_tbytes_28 : tbytes Try.prog 28 = (some 32) := by kernel_rfl
attribute [go_sem] tab_tbytes_28
theorem tab_tagg_28 : tagg Try.prog 28 = (some true) := by kernel_rfl
attribute [go_sem] tab_tagg_28
theorem tab_tfields_28 : tfields Try.prog 28 = (some [(0, (1, false)), (1, (1, false)), (2, (2, true))]) := by kernel_rfl
attribute [go_sem] tab_tfields_28
theorem tab_tsz_29 : tsz Try.prog 29 = (some 1) := by kernel_rfl
attribute [go_sem] tab_tsz_29
theorem tab_tbytes_29 : tbytes Try.prog 29 = (some 24) := by kernel_rfl
attribute [go_sem] tab_tbytes_29
theorem tab_tagg_29 : tagg Try.prog 29 = (some false) := by kernel_rfl
attribute [go_sem] tab_tagg_29
theorem tab_tslice_29 : tslice Try.prog 29 = (some 3) := by kernel_rfl
attribute [go_sem] tab_tslice_29
theorem tab_tsz_30 : tsz Try.prog 30 = (some 6) := by kernel_rfl
attribute [go_sem] tab_tsz_30
theorem tab_tbytes_30 : tbytes Try.prog 30 = (some 64) := by kernel_rfl
attribute [go_sem] tab_tbytes_30
theorem tab_tagg_30 : tagg Try.prog 30 = (some true) := by kernel_rfl
attribute [go_sem] tab_tagg_30
theorem tab_tfields_30 : tfields Try.prog 30 = (some [(0, (1, false)), (1, (1, false)), (2, (1, false)), (3, (1, false)), (4, (1, false)), (5, (1, false))]) := by kernel_rfl
attribute [go_sem] tab_tfields_30
theorem tab_tsz_31 : tsz Try.prog 31 = (some 6) := by kernel_rfl
attribute [go_sem] tab_tsz_31
theorem tab_tbytes_31 : tbytes Try.prog 31 = (some 64) := by kernel_rfl
attribute [go_sem] tab_tbytes_31
theorem tab_tagg_31 : tagg Try.prog 31 = (some true) := by kernel_rfl
attribute [go_sem] tab_tagg_31
theorem tab_tfields_31 : tfields Try.prog 31 = (some [(0, (1, false)), (1, (1, false)), (2, (1, false)), (3, (1, false)), (4, (1, false)), (5, (1, false))]) := by kernel_rfl
attribute [go_sem] tab_tfields_31
theorem tab_tsz_32 : tsz Try.prog 32 = (some 1) := by kernel_rfl
attribute [go_sem] tab_tsz_32
theorem tab_tbytes_32 : tbytes Try.prog 32 = (some 8) := by kernel_rfl
attribute [go_sem] tab_tbytes_32
theorem tab_tagg_32 : tagg Try.prog 32 = (some false) := by kernel_rfl
attribute [go_sem] tab_tagg_32
theorem tab_tsz_33 : tsz Try.prog 33 = (some 1) := by kernel_rfl
attribute [go_sem] tab_tsz_33
theorem tab_tbytes_33 : tbytes Try.prog 33 = (some 8) := by kernel_rfl
attribute [go_sem] tab_tbytes_33
theorem tab_tagg_33 : tagg Try.prog 33 = (some false) := by kernel_rfl
attribute [go_sem] tab_tagg_33
theorem tab_tsz_34 : tsz Try.prog 34 = (some 1) := by kernel_rfl
attribute [go_sem] tab_tsz_34
theorem tab_tbytes_34 : tbytes Try.prog 34 = (some 8) := by kernel_rfl
attribute [go_sem] tab_tbytes_34
theorem tab_tagg_34 : tagg Try.prog 34 = (some false) := by kernel_rfl
attribute [go_sem] tab_tagg_34
theorem tab_tsz_35 : tsz Try.prog 35 = (some 1) := by kernel_rfl
attribute [go_sem] tab_tsz_35
theorem tab_tbytes_35 : tbytes Try.prog 35 = (some 8) := by kernel_rfl
attribute [go_sem] tab_tbytes_35
theorem tab_tagg_35 : tagg Try.prog 35 = (some false) := by kernel_rfl
attribute [go_sem] tab_tagg_35
theorem tab_tint_35 : tint Try.prog 35 = (some IntKind.i64) := by kernel_rfl
attribute [go_sem] tab_tint_35
theorem tab_tsz_36 : tsz Try.prog 36 = (some 1) := by kernel_rfl
attribute [go_sem] tab_tsz_36
theorem tab_tbytes_36 : tbytes Try.prog 36 = (some 0) := by kernel_rfl
attribute [go_sem] tab_tbytes_36
theorem tab_tagg_36 : tagg Try.prog 36 = (some false) := by kernel_rfl
attribute [go_sem] tab_tagg_36
theorem tab_tsz_37 : tsz Try.prog 37 = (some 1) := by kernel_rfl
attribute [go_sem] tab_tsz_37
theorem tab_tbytes_37 : tbytes Try.prog 37 = (some 8) := by kernel_rfl
attribute [go_sem] tab_tbytes_37
theorem tab_tagg_37 : tagg Try.prog 37 = (some false) := by kernel_rfl
attribute [go_sem] tab_tagg_37
theorem tab_tsz_38 : tsz Try.prog 38 = (some 1) := by kernel_rfl
attribute [go_sem] tab_tsz_38
theorem tab_tbytes_38 : tbytes Try.prog 38 = (some 8) := by kernel_rfl
attribute [go_sem] tab_tbytes_38
theorem tab_tagg_38 : tagg Try.prog 38 = (some false) := by kernel_rfl
attribute [go_sem] tab_tagg_38
theorem tab_tsz_39 : tsz Try.prog 39 = (some 1) := by kernel_rfl
attribute [go_sem] tab_tsz_39
theorem tab_tbytes_39 : tbytes Try.prog 39 = (some 0) := by kernel_rfl
attribute [go_sem] tab_tbytes_39
theorem tab_tagg_39 : tagg Try.prog 39 = (some false) := by kernel_rfl
attribute [go_sem] tab_tagg_39
theorem tab_tsz_40 : tsz Try.prog 40 = (some 1) := by kernel_rfl
attribute [go_sem] tab_tsz_40
theorem tab_tbytes_40 : tbytes Try.prog 40 = (some 8) := by kernel_rfl
attribute [go_sem] tab_tbytes_40
theorem tab_tagg_40 : tagg Try.prog 40 = (some false) := by kernel_rfl
attribute [go_sem] tab_tagg_40
theorem tab_tsz_41 : tsz Try.prog 41 = (some 1) := by kernel_rfl
attribute [go_sem] tab_tsz_41
theorem tab_tbytes_41 : tbytes Try.prog 41 = (some 8) := by kernel_rfl
attribute [go_sem] tab_tbytes_41
theorem tab_tagg_41 : tagg Try.prog 41 = (some false) := by kernel_rfl
attribute [go_sem] tab_tagg_41
theorem tab_tsz_42 : tsz Try.prog 42 = (some 1) := by kernel_rfl
attribute [go_sem] tab_tsz_42
theorem tab_tbytes_42 : tbytes Try.prog 42 = (some 0) := by kernel_rfl
attribute [go_sem] tab_tbytes_42
theorem tab_tagg_42 : tagg Try.prog 42 = (some false) := by kernel_rfl
attribute [go_sem] tab_tagg_42
theorem tab_tsz_43 : tsz Try.prog 43 = (some 1) := by kernel_rfl
attribute [go_sem] tab_tsz_43
theorem tab_tbytes_43 : tbytes Try.prog 43 = (some 8) := by kernel_rfl
attribute [go_sem] tab_tbytes_43
theorem tab_tagg_43 : tagg Try.prog 43 = (some false) := by kernel_rfl
attribute [go_sem] tab_tagg_43
theorem tab_tsz_44 : tsz Try.prog 44 = (some 1) := by kernel_rfl
attribute [go_sem] tab_tsz_44
theorem tab_tbytes_44 : tbytes Try.prog 44 = (some 8) := by kernel_rfl
attribute [go_sem] tab_tbytes_44
theorem tab_tagg_44 : tagg Try.prog 44 = (some false) := by kernel_rfl
attribute [go_sem] tab_tagg_44
theorem tab_tsz_45 : tsz Try.prog 45 = (some 1) := by kernel_rfl
attribute [go_sem] tab_tsz_45
theorem tab_tbytes_45 : tbytes Try.prog 45 = (some 8) := by kernel_rfl
attribute [go_sem] tab_tbytes_45
theorem tab_tagg_45 : tagg Try.prog 45 = (some false) := by kernel_rfl
attribute [go_sem] tab_tagg_45
theorem tab_tsz_46 : tsz Try.prog 46 = (some 1) := by kernel_rfl
attribute [go_sem] tab_tsz_46
theorem tab_tbytes_46 : tbytes Try.prog 46 = (some 8) := by kernel_rfl
attribute [go_sem] tab_tbytes_46
theorem tab_tagg_46 : tagg Try.prog 46 = (some false) := by kernel_rfl
attribute [go_sem] tab_tagg_46
theorem tab_tsz_47 : tsz Try.prog 47 = (some 1) := by kernel_rfl
attribute [go_sem] tab_tsz_47
theorem tab_tbytes_47 : tbytes Try.prog 47 = (some 24) := by kernel_rfl
attribute [go_sem] tab_tbytes_47
theorem tab_tagg_47 : tagg Try.prog 47 = (some false) := by kernel_rfl
attribute [go_sem] tab_tagg_47
theorem tab_tslice_47 : tslice Try.prog 47 = (some 26) := by kernel_rfl
attribute [go_sem] tab_tslice_47
theorem tab_tsz_48 : tsz Try.prog 48 = (some 8) := by kernel_rfl
attribute [go_sem] tab_tsz_48
theorem tab_tbytes_48 : tbytes Try.prog 48 = (some 80) := by kernel_rfl
attribute [go_sem] tab_tbytes_48
theorem tab_tagg_48 : tagg Try.prog 48 = (some true) := by kernel_rfl
attribute [go_sem] tab_tagg_48
theorem tab_tfields_48 : tfields Try.prog 48 = (some [(0, (1, false)), (1, (1, false)), (2, (1, false)), (3, (2, true)), (5, (2, true)), (7, (1, false))]) := by kernel_rfl
attribute [go_sem] tab_tfields_48
theorem tab_tsz_49 : tsz Try.prog 49 = (some 8) := by kernel_rfl
attribute [go_sem] tab_tsz_49
theorem tab_tbytes_49 : tbytes Try.prog 49 = (some 80) := by kernel_rfl
attribute [go_sem] tab_tbytes_49
theorem tab_tagg_49 : tagg Try.prog 49 = (some true) := by kernel_rfl
attribute [go_sem] tab_tagg_49
theorem tab_tfields_49 : tfields Try.prog 49 = (some [(0, (1, false)), (1, (1, false)), (2, (1, false)), (3, (2, true)), (5, (2, true)), (7, (1, false))]) := by kernel_rfl
attribute [go_sem] tab_tfields_49
theorem tab_tsz_50 : tsz Try.prog 50 = (some 1) := by kernel_rfl
attribute [go_sem] tab_tsz_50
theorem tab_tbytes_50 : tbytes Try.prog 50 = (some 8) := by kernel_rfl
attribute [go_sem] tab_tbytes_50
theorem tab_tagg_50 : tagg Try.prog 50 = (some false) := by kernel_rfl
attribute [go_sem] tab_tagg_50
theorem tab_tsz_51 : tsz Try.prog 51 = (some 15) := by kernel_rfl
attribute [go_sem] tab_tsz_51
theorem tab_tbytes_51 : tbytes Try.prog 51 = (some 136) := by kernel_rfl
attribute [go_sem] tab_tbytes_51
theorem tab_tagg_51 : tagg Try.prog 51 = (some true) := by kernel_rfl
attribute [go_sem] tab_tagg_51
theorem tab_tfields_51 : tfields Try.prog 51 = (some [(0, (1, false)), (1, (1, false)), (2, (1, false)), (3, (1, false)), (4, (1, false)), (5, (1, false)), (6, (1, false)), (7, (8, true))]) := by kernel_rfl
attribute [go_sem] tab_tfields_51
theorem tab_tsz_52 : tsz Try.prog 52 = (some 15) := by kernel_rfl
attribute [go_sem] tab_tsz_52
theorem tab_tbytes_52 : tbytes Try.prog 52 = (some 136) := by kernel_rfl
attribute [go_sem] tab_tbytes_52
theorem tab_tagg_52 : tagg Try.prog 52 = (some true) := by kernel_rfl
attribute [go_sem] tab_tagg_52
theorem tab_tfields_52 : tfields Try.prog 52 = (some [(0, (1, false)), (1, (1, false)), (2, (1, false)), (3, (1, false)), (4, (1, false)), (5, (1, false)), (6, (1, false)), (7, (8, true))]) := by kernel_rfl
attribute [go_sem] tab_tfields_52
theorem tab_tsz_53 : tsz Try.prog 53 = (some 1) := by kernel_rfl
attribute [go_sem] tab_tsz_53
theorem tab_tbytes_53 : tbytes Try.prog 53 = (some 0) := by kernel_rfl
attribute [go_sem] tab_tbytes_53
theorem tab_tagg_53 : tagg Try.prog 53 = (some false) := by kernel_rfl
attribute [go_sem] tab_tagg_53
theorem tab_tsz_54 : tsz Try.prog 54 = (some 1) := by kernel_rfl
attribute [go_sem] tab_tsz_54
theorem tab_tbytes_54 : tbytes Try.prog 54 = (some 8) := by kernel_rfl
attribute [go_sem] tab_tbytes_54
theorem tab_tagg_54 : tagg Try.prog 54 = (some false) := by kernel_rfl
attribute [go_sem] tab_tagg_54
theorem tab_tsz_55 : tsz Try.prog 55 = (some 1) := by kernel_rfl
attribute [go_sem] tab_tsz_55
theorem tab_tbytes_55 : tbytes Try.prog 55 = (some 8) := by kernel_rfl
attribute [go_sem] tab_tbytes_55
theorem tab_tagg_55 : tagg Try.prog 55 = (some false) := by kernel_rfl
attribute [go_sem] tab_tagg_55
theorem tab_tsz_56 : tsz Try.prog 56 = (some 1) := by kernel_rfl
attribute [go_sem] tab_tsz_56
theorem tab_tbytes_56 : tbytes Try.prog 56 = (some 8) := by kernel_rfl
attribute [go_sem] tab_tbytes_56
theorem tab_tagg_56 : tagg Try.prog 56 = (some false) := by kernel_rfl
attribute [go_sem] tab_tagg_56
theorem tab_tsz_57 : tsz Try.prog 57 = (some 1) := by kernel_rfl
attribute [go_sem] tab_tsz_57
theorem tab_tbytes_57 : tbytes Try.prog 57 = (some 0) := by kernel_rfl
attribute [go_sem] tab_tbytes_57
theorem tab_tagg_57 : tagg Try.prog 57 = (some false) := by kernel_rfl
attribute [go_sem] tab_tagg_57
theorem tab_tsz_58 : tsz Try.prog 58 = (some 1) := by kernel_rfl
attribute [go_sem] tab_tsz_58
theorem tab_tbytes_58 : tbytes Try.prog 58 = (some 8) := by kernel_rfl
attribute [go_sem] tab_tbytes_58
theorem tab_tagg_58 : tagg Try.prog 58 = (some false) := by kernel_rfl
attribute [go_sem] tab_tagg_58
theorem tab_tsz_59 : tsz Try.prog 59 = (some 1) := by kernel_rfl
attribute [go_sem] tab_tsz_59
theorem tab_tbytes_59 : tbytes Try.prog 59 = (some 0) := by kernel_rfl
attribute [go_sem] tab_tbytes_59
theorem tab_tagg_59 : tagg Try.prog 59 = (some false) := by kernel_rfl
attribute [go_sem] tab_tagg_59
theorem tab_tsz_60 : tsz Try.prog 60 = (some 1) := by kernel_rfl
attribute [go_sem] tab_tsz_60
theorem tab_tbytes_60 : tbytes Try.prog 60 = (some 8) := by kernel_rfl
attribute [go_sem] tab_tbytes_60
theorem tab_tagg_60 : tagg Try.prog 60 = (some false) := by kernel_rfl
attribute [go_sem] tab_tagg_60
theorem tab_tsz_61 : tsz Try.prog 61 = (some 1) := by kernel_rfl
attribute [go_sem] tab_tsz_61
theorem tab_tbytes_61 : tbytes Try.prog 61 = (some 8) := by kernel_rfl
attribute [go_sem] tab_tbytes_61
theorem tab_tagg_61 : tagg Try.prog 61 = (some false) := by kernel_rfl
attribute [go_sem] tab_tagg_61
theorem tab_tsz_62 : tsz Try.prog 62 = (some 1) := by kernel_rfl
attribute [go_sem] tab_tsz_62
theorem tab_tbytes_62 : tbytes Try.prog 62 = (some 8) := by kernel_rfl
attribute [go_sem] tab_tbytes_62
theorem tab_tagg_62 : tagg Try.prog 62 = (some false) := by kernel_rfl
attribute [go_sem] tab_tagg_62
theorem tab_tsz_63 : tsz Try.prog 63 = (some 1) := by kernel_rfl
attribute [go_sem] tab_tsz_63
theorem tab_tbytes_63 : tbytes Try.prog 63 = (some 8) := by kernel_rfl
attribute [go_sem] tab_tbytes_63
theorem tab_tagg_63 : tagg Try.prog 63 = (some false) := by kernel_rfl
attribute [go_sem] tab_tagg_63
theorem tab_tsz_64 : tsz Try.prog 64 = (some 1) := by kernel_rfl
attribute [go_sem] tab_tsz_64
theorem tab_tbytes_64 : tbytes Try.prog 64 = (some 8) := by kernel_rfl
attribute [go_sem] tab_tbytes_64
theorem tab_tagg_64 : tagg Try.prog 64 = (some false) := by kernel_rfl
attribute [go_sem] tab_tagg_64
theorem tab_tsz_65 : tsz Try.prog 65 = (some 1) := by kernel_rfl
attribute [go_sem] tab_tsz_65
theorem tab_tbytes_65 : tbytes Try.prog 65 = (some 8) := by kernel_rfl
attribute [go_sem] tab_tbytes_65
theorem tab_tagg_65 : tagg Try.prog 65 = (some false) := by kernel_rfl
attribute [go_sem] tab_tagg_65
theorem tab_tsz_66 : tsz Try.prog 66 = (some 1) := by kernel_rfl
attribute [go_sem] tab_tsz_66
theorem tab_tbytes_66 : tbytes Try.prog 66 = (some 8) := by kernel_rfl
attribute [go_sem] tab_tbytes_66
theorem tab_tagg_66 : tagg Try.prog 66 = (some false) := by kernel_rfl
attribute [go_sem] tab_tagg_66
theorem tab_tsz_67 : tsz Try.prog 67 = (some 6) := by kernel_rfl
attribute [go_sem] tab_tsz_67
theorem tab_tbytes_67 : tbytes Try.prog 67 = (some 64) := by kernel_rfl
attribute [go_sem] tab_tbytes_67
theorem tab_tagg_67 : tagg Try.prog 67 = (some true) := by kernel_rfl
attribute [go_sem] tab_tagg_67
theorem tab_tfields_67 : tfields Try.prog 67 = (some [(0, (2, true)), (2, (4, true))]) := by kernel_rfl
attribute [go_sem] tab_tfields_67
theorem tab_tsz_68 : tsz Try.prog 68 = (some 6) := by kernel_rfl
attribute [go_sem] tab_tsz_68
theorem tab_tbytes_68 : tbytes Try.prog 68 = (some 64) := by kernel_rfl
attribute [go_sem] tab_tbytes_68
theorem tab_tagg_68 : tagg Try.prog 68 = (some true) := by kernel_rfl
attribute [go_sem] tab_tagg_68
theorem tab_tfields_68 : tfields Try.prog 68 = (some [(0, (2, true)), (2, (4, true))]) := by kernel_rfl
attribute [go_sem] tab_tfields_68
theorem tab_tsz_69 : tsz Try.prog 69 = (some 1) := by kernel_rfl
attribute [go_sem] tab_tsz_69
theorem tab_tbytes_69 : tbytes Try.prog 69 = (some 0) := by kernel_rfl
attribute [go_sem] tab_tbytes_69
theorem tab_tagg_69 : tagg Try.prog 69 = (some false) := by kernel_rfl
attribute [go_sem] tab_tagg_69
theorem tab_tsz_70 : tsz Try.prog 70 = (some 1) := by kernel_rfl
attribute [go_sem] tab_tsz_70
theorem tab_tbytes_70 : tbytes Try.prog 70 = (some 8) := by kernel_rfl
attribute [go_sem] tab_tbytes_70
theorem tab_tagg_70 : tagg Try.prog 70 = (some false) := by kernel_rfl
attribute [go_sem] tab_tagg_70
theorem tab_tsz_71 : tsz Try.prog 71 = (some 2) := by kernel_rfl
attribute [go_sem] tab_tsz_71
theorem tab_tbytes_71 : tbytes Try.prog 71 = (some 48) := by kernel_rfl
attribute [go_sem] tab_tbytes_71
theorem tab_tagg_71 : tagg Try.prog 71 = (some true) := by kernel_rfl
attribute [go_sem] tab_tagg_71
theorem tab_tfields_71 : tfields Try.prog 71 = (some [(0, (1, false)), (1, (1, false))]) := by kernel_rfl
attribute [go_sem] tab_tfields_71
theorem tab_tsz_72 : tsz Try.prog 72 = (some 2) := by kernel_rfl
attribute [go_sem] tab_tsz_72
theorem tab_tbytes_72 : tbytes Try.prog 72 = (some 48) := by kernel_rfl
attribute [go_sem] tab_tbytes_72
theorem tab_tagg_72 : tagg Try.prog 72 = (some true) := by kernel_rfl
attribute [go_sem] tab_tagg_72
theorem tab_tfields_72 : tfields Try.prog 72 = (some [(0, (1, false)), (1, (1, false))]) := by kernel_rfl
attribute [go_sem] tab_tfields_72
theorem tab_tsz_73 : tsz Try.prog 73 = (some 1) := by kernel_rfl
attribute [go_sem] tab_tsz_73
theorem tab_tbytes_73 : tbytes Try.prog 73 = (some 8) := by kernel_rfl
attribute [go_sem] tab_tbytes_73
theorem tab_tagg_73 : tagg Try.prog 73 = (some false) := by kernel_rfl
attribute [go_sem] tab_tagg_73
theorem tab_tsz_74 : tsz Try.prog 74 = (some 1) := by kernel_rfl
attribute [go_sem] tab_tsz_74
theorem tab_tbytes_74 : tbytes Try.prog 74 = (some 8) := by kernel_rfl
attribute [go_sem] tab_tbytes_74
theorem tab_tagg_74 : tagg Try.prog 74 = (some false) := by kernel_rfl
attribute [go_sem] tab_tagg_74
theorem tab_tsz_75 : tsz Try.prog 75 = (some 1) := by kernel_rfl
attribute [go_sem] tab_tsz_75
theorem tab_tbytes_75 : tbytes Try.prog 75 = (some 8) := by kernel_rfl
attribute [go_sem] tab_tbytes_75
theorem tab_tagg_75 : tagg Try.prog 75 = (some false) := by kernel_rfl
attribute [go_sem] tab_tagg_75
theorem tab_tsz_76 : tsz Try.prog 76 = (some 1) := by kernel_rfl
attribute [go_sem] tab_tsz_76
theorem tab_tbytes_76 : tbytes Try.prog 76 = (some 24) := by kernel_rfl
attribute [go_sem] tab_tbytes_76
theorem tab_tagg_76 : tagg Try.prog 76 = (some false) := by kernel_rfl
attribute [go_sem] tab_tagg_76
theorem tab_tslice_76 : tslice Try.prog 76 = (some 29) := by kernel_rfl
attribute [go_sem] tab_tslice_76
theorem tab_tsz_77 : tsz Try.prog 77 = (some 1) := by kernel_rfl
attribute [go_sem] tab_tsz_77
theorem tab_tbytes_77 : tbytes Try.prog 77 = (some 8) := by kernel_rfl
attribute [go_sem] tab_tbytes_77
theorem tab_tagg_77 : tagg Try.prog 77 = (some false) := by kernel_rfl
attribute [go_sem] tab_tagg_77
theorem tab_tsz_78 : tsz Try.prog 78 = (some 1) := by kernel_rfl
attribute [go_sem] tab_tsz_78
theorem tab_tbytes_78 : tbytes Try.prog 78 = (some 8) := by kernel_rfl
attribute [go_sem] tab_tbytes_78
theorem tab_tagg_78 : tagg Try.prog 78 = (some false) := by kernel_rfl
attribute [go_sem] tab_tagg_78
theorem tab_tsz_79 : tsz Try.prog 79 = (some 1) := by kernel_rfl
attribute [go_sem] tab_tsz_79
theorem tab_tbytes_79 : tbytes Try.prog 79 = (some 8) := by kernel_rfl
attribute [go_sem] tab_tbytes_79
theorem tab_tagg_79 : tagg Try.prog 79 = (some false) := by kernel_rfl
attribute [go_sem] tab_tagg_79
theorem tab_tsz_80 : tsz Try.prog 80 = (some 1) := by kernel_rfl
attribute [go_sem] tab_tsz_80
theorem tab_tbytes_80 : tbytes Try.prog 80 = (some 8) := by kernel_rfl
attribute [go_sem] tab_tbytes_80
theorem tab_tagg_80 : tagg Try.prog 80 = (some false) := by kernel_rfl
attribute [go_sem] tab_tagg_80
theorem tab_tsz_81 : tsz Try.prog 81 = (some 1) := by kernel_rfl
attribute [go_sem] tab_tsz_81
theorem tab_tbytes_81 : tbytes Try.prog 81 = (some 8) := by kernel_rfl
attribute [go_sem] tab_tbytes_81
theorem tab_tagg_81 : tagg Try.prog 81 = (some false) := by kernel_rfl
attribute [go_sem] tab_tagg_81
theorem tab_tsz_82 : tsz Try.prog 82 = (some 1) := by kernel_rfl
attribute [go_sem] tab_tsz_82
theorem tab_tbytes_82 : tbytes Try.prog 82 = (some 8) := by kernel_rfl
attribute [go_sem] tab_tbytes_82
theorem tab_tagg_82 : tagg Try.prog 82 = (some false) := by kernel_rfl
attribute [go_sem] tab_tagg_82
theorem tab_tsz_83 : tsz Try.prog 83 = (some 1) := by kernel_rfl
attribute [go_sem] tab_tsz_83
theorem tab_tbytes_83 : tbytes Try.prog 83 = (some 8) := by kernel_rfl
attribute [go_sem] tab_tbytes_83
theorem tab_tagg_83 : tagg Try.prog 83 = (some false) := by kernel_rfl
attribute [go_sem] tab_tagg_83
theorem tab_tsz_84 : tsz Try.prog 84 = (some 1) := by kernel_rfl
attribute [go_sem] tab_tsz_84
theorem tab_tbytes_84 : tbytes Try.prog 84 = (some 8) := by kernel_rfl
attribute [go_sem] tab_tbytes_84
theorem tab_tagg_84 : tagg Try.prog 84 = (some false) := by kernel_rfl
attribute [go_sem] tab_tagg_84
theorem tab_tsz_85 : tsz Try.prog 85 = (some 1) := by kernel_rfl
attribute [go_sem] tab_tsz_85
theorem tab_tbytes_85 : tbytes Try.prog 85 = (some 8) := by kernel_rfl
attribute [go_sem] tab_tbytes_85
theorem tab_tagg_85 : tagg Try.prog 85 = (some false) := by kernel_rfl
attribute [go_sem] tab_tagg_85
theorem tab_tsz_86 : tsz Try.prog 86 = (some 2) := by kernel_rfl
attribute [go_sem] tab_tsz_86
theorem tab_tbytes_86 : tbytes Try.prog 86 = (some 32) := by kernel_rfl
attribute [go_sem] tab_tbytes_86
theorem tab_tagg_86 : tagg Try.prog 86 = (some true) := by kernel_rfl
attribute [go_sem] tab_tagg_86
theorem tab_tfields_86 : tfields Try.prog 86 = (some [(0, (1, false)), (1, (1, false))]) := by kernel_rfl
attribute [go_sem] tab_tfields_86
theorem tab_tsz_87 : tsz Try.prog 87 = (some 2) := by kernel_rfl
attribute [go_sem] tab_tsz_87
theorem tab_tbytes_87 : tbytes Try.prog 87 = (some 32) := by kernel_rfl
attribute [go_sem] tab_tbytes_87
theorem tab_tagg_87 : tagg Try.prog 87 = (some true) := by kernel_rfl
attribute [go_sem] tab_tagg_87
theorem tab_tfields_87 : tfields Try.prog 87 = (some [(0, (1, false)), (1, (1, false))]) := by kernel_rfl
attribute [go_sem] tab_tfields_87
theorem tab_tsz_88 : tsz Try.prog 88 = (some 1) := by kernel_rfl
attribute [go_sem] tab_tsz_88
theorem tab_tbytes_88 : tbytes Try.prog 88 = (some 0) := by kernel_rfl
attribute [go_sem] tab_tbytes_88
theorem tab_tagg_88 : tagg Try.prog 88 = (some false) := by kernel_rfl
attribute [go_sem] tab_tagg_88
theorem tab_tsz_89 : tsz Try.prog 89 = (some 1) := by kernel_rfl
attribute [go_sem] tab_tsz_89
theorem tab_tbytes_89 : tbytes Try.prog 89 = (some 8) := by kernel_rfl
attribute [go_sem] tab_tbytes_89
theorem tab_tagg_89 : tagg Try.prog 89 = (some false) := by kernel_rfl
attribute [go_sem] tab_tagg_89
theorem tab_tsz_90 : tsz Try.prog 90 = (some 1) := by kernel_rfl
attribute [go_sem] tab_tsz_90
theorem tab_tbytes_90 : tbytes Try.prog 90 = (some 8) := by kernel_rfl
attribute [go_sem] tab_tbytes_90
theorem tab_tagg_90 : tagg Try.prog 90 = (some false) := by kernel_rfl
attribute [go_sem] tab_tagg_90
theorem tab_tsz_91 : tsz Try.prog 91 = (some 1) := by kernel_rfl
attribute [go_sem] tab_tsz_91
theorem tab_tbytes_91 : tbytes Try.prog 91 = (some 8) := by kernel_rfl
attribute [go_sem] tab_tbytes_91
theorem tab_tagg_91 : tagg Try.prog 91 = (some false) := by kernel_rfl
attribute [go_sem] tab_tagg_91
theorem tab_tsz_92 : tsz Try.prog 92 = (some 1) := by kernel_rfl
attribute [go_sem] tab_tsz_92
theorem tab_tbytes_92 : tbytes Try.prog 92 = (some 8) := by kernel_rfl
attribute [go_sem] tab_tbytes_92
theorem tab_tagg_92 : tagg Try.prog 92 = (some false) := by kernel_rfl
attribute [go_sem] tab_tagg_92
theorem tab_tsz_93 : tsz Try.prog 93 = (some 1) := by kernel_rfl
attribute [go_sem] tab_tsz_93
theorem tab_tbytes_93 : tbytes Try.prog 93 = (some 8) := by kernel_rfl
attribute [go_sem] tab_tbytes_93
theorem tab_tagg_93 : tagg Try.prog 93 = (some false) := by kernel_rfl
attribute [go_sem] tab_tagg_93
theorem tab_tsz_94 : tsz Try.prog 94 = (some 1) := by kernel_rfl
attribute [go_sem] tab_tsz_94
theorem tab_tbytes_94 : tbytes Try.prog 94 = (some 8) := by kernel_rfl
attribute [go_sem] tab_tbytes_94
theorem tab_tagg_94 : tagg Try.prog 94 = (some false) := by kernel_rfl
attribute [go_sem] tab_tagg_94
theorem tab_tsz_95 : tsz Try.prog 95 = (some 1) := by kernel_rfl
attribute [go_sem] tab_tsz_95
theorem tab_tbytes_95 : tbytes Try.prog 95 = (some 8) := by kernel_rfl
attribute [go_sem] tab_tbytes_95
theorem tab_tagg_95 : tagg Try.prog 95 = (some false) := by kernel_rfl
attribute [go_sem] tab_tagg_95
theorem tab_tsz_96 : tsz Try.prog 96 = (some 1) := by kernel_rfl
attribute [go_sem] tab_tsz_96
theorem tab_tbytes_96 : tbytes Try.prog 96 = (some 8) := by kernel_rfl
attribute [go_sem] tab_tbytes_96
theorem tab_tagg_96 : tagg Try.prog 96 = (some false) := by kernel_rfl
attribute [go_sem] tab_tagg_96
theorem tab_tsz_97 : tsz Try.prog 97 = (some 1) := by kernel_rfl
attribute [go_sem] tab_tsz_97
theorem tab_tbytes_97 : tbytes Try.prog 97 = (some 8) := by kernel_rfl
attribute [go_sem] tab_tbytes_97
theorem tab_tagg_97 : tagg Try.prog 97 = (some false) := by kernel_rfl
attribute [go_sem] tab_tagg_97
theorem tab_tsz_98 : tsz Try.prog 98 = (some 1) := by kernel_rfl
attribute [go_sem] tab_tsz_98
theorem tab_tbytes_98 : tbytes Try.prog 98 = (some 8) := by kernel_rfl
attribute [go_sem] tab_tbytes_98
theorem tab_tagg_98 : tagg Try.prog 98 = (some false) := by kernel_rfl
attribute [go_sem] tab_tagg_98
theorem tab_tsz_99 : tsz Try.prog 99 = (some 1) := by kernel_rfl
attribute [go_sem] tab_tsz_99
theorem tab_tbytes_99 : tbytes Try.prog 99 = (some 8) := by kernel_rfl
attribute [go_sem] tab_tbytes_99
theorem tab_tagg_99 : tagg Try.prog 99 = (some false) := by kernel_rfl
attribute [go_sem] tab_tagg_99
theorem tab_tsz_100 : tsz Try.prog 100 = (some 1) := by kernel_rfl
attribute [go_sem] tab_tsz_100
theorem tab_tbytes_100 : tbytes Try.prog 100 = (some 8) := by kernel_rfl
attribute [go_sem] tab_tbytes_100
theorem tab_tagg_100 : tagg Try.prog 100 = (some false) := by kernel_rfl
attribute [go_sem] tab_tagg_100
theorem tab_tsz_101 : tsz Try.prog 101 = (some 1) := by kernel_rfl
attribute [go_sem] tab_tsz_101
theorem tab_tbytes_101 : tbytes Try.prog 101 = (some 8) := by kernel_rfl
attribute [go_sem] tab_tbytes_101
theorem tab_tagg_101 : tagg Try.prog 101 = (some false) := by kernel_rfl
attribute [go_sem] tab_tagg_101
theorem tab_tsz_102 : tsz Try.prog 102 = (some 1) := by kernel_rfl
attribute [go_sem] tab_tsz_102
theorem tab_tbytes_102 : tbytes Try.prog 102 = (some 8) := by kernel_rfl
attribute [go_sem] tab_tbytes_102
theorem tab_tagg_102 : tagg Try.prog 102 = (some false) := by kernel_rfl
attribute [go_sem] tab_tagg_102
theorem tab_tsz_103 : tsz Try.prog 103 = (some 1) := by kernel_rfl
attribute [go_sem] tab_tsz_103
theorem tab_tbytes_103 : tbytes Try.prog 103 = (some 8) := by kernel_rfl
attribute [go_sem] tab_tbytes_103
theorem tab_tagg_103 : tagg Try.prog 103 = (some false) := by kernel_rfl
attribute [go_sem] tab_tagg_103
theorem tab_tsz_104 : tsz Try.prog 104 = (some 1) := by kernel_rfl
attribute [go_sem] tab_tsz_104
theorem tab_tbytes_104 : tbytes Try.prog 104 = (some 8) := by kernel_rfl
attribute [go_sem] tab_tbytes_104
theorem tab_tagg_104 : tagg Try.prog 104 = (some false) := by kernel_rfl
attribute [go_sem] tab_tagg_104
theorem tab_tsz_105 : tsz Try.prog 105 = (some 1) := by kernel_rfl
attribute [go_sem] tab_tsz_105
theorem tab_tbytes_105 : tbytes Try.prog 105 = (some 8) := by kernel_rfl
attribute [go_sem] tab_tbytes_105
theorem tab_tagg_105 : tagg Try.prog 105 = (some false) := by kernel_rfl
attribute [go_sem] tab_tagg_105
theorem tab_tsz_106 : tsz Try.prog 106 = (some 1) := by kernel_rfl
attribute [go_sem] tab_tsz_106
theorem tab_tbytes_106 : tbytes Try.prog 106 = (some 8) := by kernel_rfl
attribute [go_sem] tab_tbytes_106
theorem tab_tagg_106 : tagg Try.prog 106 = (some false) := by kernel_rfl
attribute [go_sem] tab_tagg_106
theorem tab_tsz_107 : tsz Try.prog 107 = (some 1) := by kernel_rfl
attribute [go_sem] tab_tsz_107
theorem tab_tbytes_107 : tbytes Try.prog 107 = (some 8) := by kernel_rfl
attribute [go_sem] tab_tbytes_107
theorem tab_tagg_107 : tagg Try.prog 107 = (some false) := by kernel_rfl
attribute [go_sem] tab_tagg_107
theorem tab_tsz_108 : tsz Try.prog 108 = (some 1) := by kernel_rfl
attribute [go_sem] tab_tsz_108
theorem tab_tbytes_108 : tbytes Try.prog 108 = (some 8) := by kernel_rfl
attribute [go_sem] tab_tbytes_108
theorem tab_tagg_108 : tagg Try.prog 108 = (some false) := by kernel_rfl
attribute [go_sem] tab_tagg_108
theorem tab_tsz_109 : tsz Try.prog 109 = (some 1) := by kernel_rfl
attribute [go_sem] tab_tsz_109
theorem tab_tbytes_109 : tbytes Try.prog 109 = (some 8) := by kernel_rfl
attribute [go_sem] tab_tbytes_109
theorem tab_tagg_109 : tagg Try.prog 109 = (some false) := by kernel_rfl
attribute [go_sem] tab_tagg_109
theorem tab_tint_109 : tint Try.prog 109 = (some IntKind.u64) := by kernel_rfl
attribute [go_sem] tab_tint_109
theorem tab_tsz_110 : tsz Try.prog 110 = (some 1) := by kernel_rfl
attribute [go_sem] tab_tsz_110
theorem tab_tbytes_110 : tbytes Try.prog 110 = (some 0) := by kernel_rfl
attribute [go_sem] tab_tbytes_110
theorem tab_tagg_110 : tagg Try.prog 110 = (some false) := by kernel_rfl
attribute [go_sem] tab_tagg_110
theorem tab_tsz_111 : tsz Try.prog 111 = (some 1) := by kernel_rfl
attribute [go_sem] tab_tsz_111
theorem tab_tbytes_111 : tbytes Try.prog 111 = (some 8) := by kernel_rfl
attribute [go_sem] tab_tbytes_111
theorem tab_tagg_111 : tagg Try.prog 111 = (some false) := by kernel_rfl
attribute [go_sem] tab_tagg_111
theorem tab_tsz_112 : tsz Try.prog 112 = (some 1) := by kernel_rfl
attribute [go_sem] tab_tsz_112
theorem tab_tbytes_112 : tbytes Try.prog 112 = (some 8) := by kernel_rfl
attribute [go_sem] tab_tbytes_112
theorem tab_tagg_112 : tagg Try.prog 112 = (some false) := by kernel_rfl
attribute [go_sem] tab_tagg_112
theorem tab_tsz_113 : tsz Try.prog 113 = (some 1) := by kernel_rfl
attribute [go_sem] tab_tsz_113
theorem tab_tbytes_113 : tbytes Try.prog 113 = (some 8) := by kernel_rfl
attribute [go_sem] tab_tbytes_113
theorem tab_tagg_113 : tagg Try.prog 113 = (some false) := by kernel_rfl
attribute [go_sem] tab_tagg_113
theorem tab_tsz_114 : tsz Try.prog 114 = (some 1) := by kernel_rfl
attribute [go_sem] tab_tsz_114
theorem tab_tbytes_114 : tbytes Try.prog 114 = (some 8) := by kernel_rfl
attribute [go_sem] tab_tbytes_114
theorem tab_tagg_114 : tagg Try.prog 114 = (some false) := by kernel_rfl
attribute [go_sem] tab_tagg_114
theorem tab_tsz_115 : tsz Try.prog 115 = (some 1) := by kernel_rfl
attribute [go_sem] tab_tsz_115
theorem tab_tbytes_115 : tbytes Try.prog 115 = (some 8) := by kernel_rfl
attribute [go_sem] tab_tbytes_115
theorem tab_tagg_115 : tagg Try.prog 115 = (some false) := by kernel_rfl
attribute [go_sem] tab_tagg_115
theorem tab_tsz_116 : tsz Try.prog 116 = (some 1) := by kernel_rfl
attribute [go_sem] tab_tsz_116
theorem tab_tbytes_116 : tbytes Try.prog 116 = (some 8) := by kernel_rfl
attribute [go_sem] tab_tbytes_116
theorem tab_tagg_116 : tagg Try.prog 116 = (some false) := by kernel_rfl
attribute [go_sem] tab_tagg_116
theorem tab_tsz_117 : tsz Try.prog 117 = (some 1) := by kernel_rfl
attribute [go_sem] tab_tsz_117
theorem tab_tbytes_117 : tbytes Try.prog 117 = (some 4) := by kernel_rfl
attribute [go_sem] tab_tbytes_117
theorem tab_tagg_117 : tagg Try.prog 117 = (some false) := by kernel_rfl
attribute [go_sem] tab_tagg_117
theorem tab_tint_117 : tint Try.prog 117 = (some IntKind.u32) := by kernel_rfl
attribute [go_sem] tab_tint_117
theorem tab_tsz_118 : tsz Try.prog 118 = (some 1) := by kernel_rfl
attribute [go_sem] tab_tsz_118
theorem tab_tbytes_118 : tbytes Try.prog 118 = (some 0) := by kernel_rfl
attribute [go_sem] tab_tbytes_118
theorem tab_tagg_118 : tagg Try.prog 118 = (some false) := by kernel_rfl
attribute [go_sem] tab_tagg_118
theorem tab_tsz_119 : tsz Try.prog 119 = (some 1) := by kernel_rfl
attribute [go_sem] tab_tsz_119
theorem tab_tbytes_119 : tbytes Try.prog 119 = (some 8) := by kernel_rfl
attribute [go_sem] tab_tbytes_119
theorem tab_tagg_119 : tagg Try.prog 119 = (some false) := by kernel_rfl
attribute [go_sem] tab_tagg_119
theorem tab_tsz_120 : tsz Try.prog 120 = (some 1) := by kernel_rfl
attribute [go_sem] tab_tsz_120
theorem tab_tbytes_120 : tbytes Try.prog 120 = (some 8) := by kernel_rfl
attribute [go_sem] tab_tbytes_120
theorem tab_tagg_120 : tagg Try.prog 120 = (some false) := by kernel_rfl
attribute [go_sem] tab_tagg_120
theorem tab_tint_120 : tint Try.prog 120 = (some IntKind.u64) := by kernel_rfl
attribute [go_sem] tab_tint_120
theorem tab_tsz_121 : tsz Try.prog 121 = (some 1) := by kernel_rfl
attribute [go_sem] tab_tsz_121
theorem tab_tbytes_121 : tbytes Try.prog 121 = (some 0) := by kernel_rfl
attribute [go_sem] tab_tbytes_121
theorem tab_tagg_121 : tagg Try.prog 121 = (some false) := by kernel_rfl
attribute [go_sem] tab_tagg_121
theorem tab_tsz_122 : tsz Try.prog 122 = (some 1) := by kernel_rfl
attribute [go_sem] tab_tsz_122
theorem tab_tbytes_122 : tbytes Try.prog 122 = (some 8) := by kernel_rfl
attribute [go_sem] tab_tbytes_122
theorem tab_tagg_122 : tagg Try.prog 122 = (some false) := by kernel_rfl
attribute [go_sem] tab_tagg_122
theorem tab_tsz_123 : tsz Try.prog 123 = (some 1) := by kernel_rfl
attribute [go_sem] tab_tsz_123
theorem tab_tbytes_123 : tbytes Try.prog 123 = (some 8) := by kernel_rfl
attribute [go_sem] tab_tbytes_123
theorem tab_tagg_123 : tagg Try.prog 123 = (some false) := by kernel_rfl
attribute [go_sem] tab_tagg_123
theorem tab_tsz_124 : tsz Try.prog 124 = (some 4) := by kernel_rfl
attribute [go_sem] tab_tsz_124
theorem tab_tbytes_124 : tbytes Try.prog 124 = (some 40) := by kernel_rfl
attribute [go_sem] tab_tbytes_124
theorem tab_tagg_124 : tagg Try.prog 124 = (some true) := by kernel_rfl
attribute [go_sem] tab_tagg_124
theorem tab_tfields_124 : tfields Try.prog 124 = (some [(0, (1, false)), (1, (1, false)), (2, (1, false)), (3, (1, false))]) := by kernel_rfl
attribute [go_sem] tab_tfields_124
theorem tab_zero_1 : tzero Try.prog 1 = some Value.nilFunc := by kernel_rfl
attribute [go_sem] tab_zero_1
theorem tab_zero_2 : tzero Try.prog 2 = some (Value.int IntKind.i64 0) := by kernel_rfl
attribute [go_sem] tab_zero_2
theorem tab_zero_3 : tzero Try.prog 3 = some (Value.int IntKind.i64 0) := by kernel_rfl
attribute [go_sem] tab_zero_3
theorem tab_zero_4 : tzero Try.prog 4 = some (Value.bool false) := by kernel_rfl
attribute [go_sem] tab_zero_4
theorem tab_zero_5 : tzero Try.prog 5 = some (Value.int IntKind.u8 0) := by kernel_rfl
attribute [go_sem] tab_zero_5
theorem tab_zero_6 : tzero Try.prog 6 = some (Value.int IntKind.u8 0) := by kernel_rfl
attribute [go_sem] tab_zero_6
theorem tab_zero_7 : tzero Try.prog 7 = some (Value.agg #[Value.int IntKind.i64 0, Value.int IntKind.i64 0, Value.bool false, Value.int IntKind.u8 0]) := by kernel_rfl
attribute [go_sem] tab_zero_7
theorem tab_zero_8 : tzero Try.prog 8 = some (Value.agg #[Value.int IntKind.i64 0, Value.int IntKind.i64 0, Value.bool false, Value.int IntKind.u8 0]) := by kernel_rfl
attribute [go_sem] tab_zero_8
theorem tab_zero_12 : tzero Try.prog 12 = some (Value.int IntKind.u64 0) := by kernel_rfl
attribute [go_sem] tab_zero_12
theorem tab_zero_15 : tzero Try.prog 15 = some (Value.pointer none) := by kernel_rfl
attribute [go_sem] tab_zero_15
theorem tab_zero_16 : tzero Try.prog 16 = some (Value.pointer none) := by kernel_rfl
attribute [go_sem] tab_zero_16
theorem tab_zero_17 : tzero Try.prog 17 = some (Value.pointer none) := by kernel_rfl
attribute [go_sem] tab_zero_17
theorem tab_zero_18 : tzero Try.prog 18 = some (Value.agg #[Value.pointer none]) := by kernel_rfl
attribute [go_sem] tab_zero_18
theorem tab_zero_19 : tzero Try.prog 19 = some (Value.agg #[Value.pointer none]) := by kernel_rfl
attribute [go_sem] tab_zero_19
theorem tab_zero_21 : tzero Try.prog 21 = some (Value.int IntKind.i32 0) := by kernel_rfl
attribute [go_sem] tab_zero_21
theorem tab_zero_22 : tzero Try.prog 22 = some (Value.slice none 0 0) := by kernel_rfl
attribute [go_sem] tab_zero_22
theorem tab_zero_23 : tzero Try.prog 23 = some (Value.agg #[Value.int IntKind.i64 0, Value.slice none 0 0]) := by kernel_rfl
attribute [go_sem] tab_zero_23
theorem tab_zero_24 : tzero Try.prog 24 = some (Value.agg #[Value.int IntKind.i64 0, Value.slice none 0 0]) := by kernel_rfl
attribute [go_sem] tab_zero_24
theorem tab_zero_25 : tzero Try.prog 25 = some (Value.agg #[Value.int IntKind.i64 0, Value.int IntKind.i64 0]) := by kernel_rfl
attribute [go_sem] tab_zero_25
theorem tab_zero_26 : tzero Try.prog 26 = some (Value.agg #[Value.int IntKind.i64 0, Value.int IntKind.i64 0]) := by kernel_rfl
attribute [go_sem] tab_zero_26
theorem tab_zero_27 : tzero Try.prog 27 = some (Value.agg #[Value.int IntKind.i64 0, Value.int IntKind.i64 0, Value.int IntKind.i64 0, Value.int IntKind.i64 0]) := by kernel_rfl
attribute [go_sem] tab_zero_27
theorem tab_zero_28 : tzero Try.prog 28 = some (Value.agg #[Value.int IntKind.i64 0, Value.int IntKind.i64 0, Value.int IntKind.i64 0, Value.int IntKind.i64 0]) := by kernel_rfl
attribute [go_sem] tab_zero_28
theorem tab_zero_29 : tzero Try.prog 29 = some (Value.slice none 0 0) := by kernel_rfl
attribute [go_sem] tab_zero_29
theorem tab_zero_30 : tzero Try.prog 30 = some (Value.agg #[Value.int IntKind.i64 0, Value.int IntKind.i64 0, Value.int IntKind.i64 0, Value.int IntKind.i64 0, Value.slice none 0 0, Value.int IntKind.i64 0]) := by kernel_rfl
attribute [go_sem] tab_zero_30
theorem tab_zero_31 : tzero Try.prog 31 = some (Value.agg #[Value.int IntKind.i64 0, Value.int IntKind.i64 0, Value.int IntKind.i64 0, Value.int IntKind.i64 0, Value.slice none 0 0, Value.int IntKind.i64 0]) := by kernel_rfl
attribute [go_sem] tab_zero_31
theorem tab_zero_32 : tzero Try.prog 32 = some Value.nilFunc := by kernel_rfl
attribute [go_sem] tab_zero_32
theorem tab_zero_33 : tzero Try.prog 33 = some Value.nilFunc := by kernel_rfl
attribute [go_sem] tab_zero_33
theorem tab_zero_34 : tzero Try.prog 34 = some Value.nilFunc := by kernel_rfl
attribute [go_sem] tab_zero_34
theorem tab_zero_35 : tzero Try.prog 35 = some (Value.int IntKind.i64 0) := by kernel_rfl
attribute [go_sem] tab_zero_35
theorem tab_zero_37 : tzero Try.prog 37 = some Value.nilFunc := by kernel_rfl
attribute [go_sem] tab_zero_37
theorem tab_zero_38 : tzero Try.prog 38 = some Value.nilFunc := by kernel_rfl
attribute [go_sem] tab_zero_38
theorem tab_zero_40 : tzero Try.prog 40 = some Value.nilFunc := by kernel_rfl
attribute [go_sem] tab_zero_40
theorem tab_zero_41 : tzero Try.prog 41 = some Value.nilFunc := by kernel_rfl
attribute [go_sem] tab_zero_41
theorem tab_zero_43 : tzero Try.prog 43 = some Value.nilFunc := by kernel_rfl
attribute [go_sem] tab_zero_43
theorem tab_zero_44 : tzero Try.prog 44 = some Value.nilFunc := by kernel_rfl
attribute [go_sem] tab_zero_44
theorem tab_zero_45 : tzero Try.prog 45 = some Value.nilFunc := by kernel_rfl
attribute [go_sem] tab_zero_45
theorem tab_zero_46 : tzero Try.prog 46 = some Value.nilFunc := by kernel_rfl
attribute [go_sem] tab_zero_46
theorem tab_zero_47 : tzero Try.prog 47 = some (Value.slice none 0 0) := by kernel_rfl
attribute [go_sem] tab_zero_47
theorem tab_zero_48 : tzero Try.prog 48 = some (Value.agg #[Value.int IntKind.i64 0, Value.int IntKind.i64 0, Value.int IntKind.i64 0, Value.int IntKind.i64 0, Value.int IntKind.i64 0, Value.int IntKind.i64 0, Value.int IntKind.i64 0, Value.slice none 0 0]) := by kernel_rfl
attribute [go_sem] tab_zero_48
theorem tab_zero_49 : tzero Try.prog 49 = some (Value.agg #[Value.int IntKind.i64 0, Value.int IntKind.i64 0, Value.int IntKind.i64 0, Value.int IntKind.i64 0, Value.int IntKind.i64 0, Value.int IntKind.i64 0, Value.int IntKind.i64 0, Value.slice none 0 0]) := by kernel_rfl
attribute [go_sem] tab_zero_49
theorem tab_zero_50 : tzero Try.prog 50 = some Value.nilFunc := by kernel_rfl
attribute [go_sem] tab_zero_50
theorem tab_zero_51 : tzero Try.prog 51 = some (Value.agg #[Value.int IntKind.i64 0, Value.int IntKind.i64 0, Value.int IntKind.i64 0, Value.int IntKind.i64 0, Value.int IntKind.i64 0, Value.int IntKind.i64 0, Value.int IntKind.i64 0, Value.int IntKind.i64 0, Value.int IntKind.i64 0, Value.int IntKind.i64 0, Value.int IntKind.i64 0, Value.int IntKind.i64 0, Value.int IntKind.i64 0, Value.int IntKind.i64 0, Value.slice none 0 0]) := by kernel_rfl
attribute [go_sem] tab_zero_51
theorem tab_zero_52 : tzero Try.prog 52 = some (Value.agg #[Value.int IntKind.i64 0, Value.int IntKind.i64 0, Value.int IntKind.i64 0, Value.int IntKind.i64 0, Value.int IntKind.i64 0, Value.int IntKind.i64 0, Value.int IntKind.i64 0, Value.int IntKind.i64 0, Value.int IntKind.i64 0, Value.int IntKind.i64 0, Value.int IntKind.i64 0, Value.int IntKind.i64 0, Value.int IntKind.i64 0, Value.int IntKind.i64 0, Value.slice none 0 0]) := by kernel_rfl
attribute [go_sem] tab_zero_52
theorem tab_zero_54 : tzero Try.prog 54 = some Value.nilFunc := by kernel_rfl
attribute [go_sem] tab_zero_54
theorem tab_zero_55 : tzero Try.prog 55 = some Value.nilFunc := by kernel_rfl
attribute [go_sem] tab_zero_55
theorem tab_zero_56 : tzero Try.prog 56 = some Value.nilFunc := by kernel_rfl
attribute [go_sem] tab_zero_56
theorem tab_zero_58 : tzero Try.prog 58 = some Value.nilFunc := by kernel_rfl
attribute [go_sem] tab_zero_58
theorem tab_zero_60 : tzero Try.prog 60 = some Value.nilFunc := by kernel_rfl
attribute [go_sem] tab_zero_60
theorem tab_zero_61 : tzero Try.prog 61 = some Value.nilFunc := by kernel_rfl
attribute [go_sem] tab_zero_61
theorem tab_zero_62 : tzero Try.prog 62 = some Value.nilFunc := by kernel_rfl
attribute [go_sem] tab_zero_62
theorem tab_zero_63 : tzero Try.prog 63 = some Value.nilFunc := by kernel_rfl
attribute [go_sem] tab_zero_63
theorem tab_zero_64 : tzero Try.prog 64 = some Value.nilFunc := by kernel_rfl
attribute [go_sem] tab_zero_64
theorem tab_zero_65 : tzero Try.prog 65 = some Value.nilFunc := by kernel_rfl
attribute [go_sem] tab_zero_65
theorem tab_zero_66 : tzero Try.prog 66 = some Value.nilFunc := by kernel_rfl
attribute [go_sem] tab_zero_66
theorem tab_zero_67 : tzero Try.prog 67 = some (Value.agg #[Value.int IntKind.i64 0, Value.slice none 0 0, Value.int IntKind.i64 0, Value.int IntKind.i64 0, Value.int IntKind.i64 0, Value.int IntKind.i64 0]) := by kernel_rfl
attribute [go_sem] tab_zero_67
theorem tab_zero_68 : tzero Try.prog 68 = some (Value.agg #[Value.int IntKind.i64 0, Value.slice none 0 0, Value.int IntKind.i64 0, Value.int IntKind.i64 0, Value.int IntKind.i64 0, Value.int IntKind.i64 0]) := by kernel_rfl
attribute [go_sem] tab_zero_68
theorem tab_zero_70 : tzero Try.prog 70 = some Value.nilFunc := by kernel_rfl
attribute [go_sem] tab_zero_70
theorem tab_zero_71 : tzero Try.prog 71 = some (Value.agg #[Value.slice none 0 0, Value.slice none 0 0]) := by kernel_rfl
attribute [go_sem] tab_zero_71
theorem tab_zero_72 : tzero Try.prog 72 = some (Value.agg #[Value.slice none 0 0, Value.slice none 0 0]) := by kernel_rfl
attribute [go_sem] tab_zero_72
theorem tab_zero_73 : tzero Try.prog 73 = some Value.nilFunc := by kernel_rfl
attribute [go_sem] tab_zero_73
theorem tab_zero_74 : tzero Try.prog 74 = some Value.nilFunc := by kernel_rfl
attribute [go_sem] tab_zero_74
theorem tab_zero_75 : tzero Try.prog 75 = some Value.nilFunc := by kernel_rfl
attribute [go_sem] tab_zero_75
theorem tab_zero_76 : tzero Try.prog 76 = some (Value.slice none 0 0) := by kernel_rfl
attribute [go_sem] tab_zero_76
theorem tab_zero_77 : tzero Try.prog 77 = some Value.nilFunc := by kernel_rfl
attribute [go_sem] tab_zero_77
theorem tab_zero_78 : tzero Try.prog 78 = some Value.nilFunc := by kernel_rfl
attribute [go_sem] tab_zero_78
theorem tab_zero_79 : tzero Try.prog 79 = some Value.nilFunc := by kernel_rfl
attribute [go_sem] tab_zero_79
theorem tab_zero_80 : tzero Try.prog 80 = some Value.nilFunc := by kernel_rfl
attribute [go_sem] tab_zero_80
theorem tab_zero_81 : tzero Try.prog 81 = some Value.nilFunc := by kernel_rfl
attribute [go_sem] tab_zero_81
theorem tab_zero_82 : tzero Try.prog 82 = some Value.nilFunc := by kernel_rfl
attribute [go_sem] tab_zero_82
theorem tab_zero_83 : tzero Try.prog 83 = some Value.nilFunc := by kernel_rfl
attribute [go_sem] tab_zero_83
theorem tab_zero_84 : tzero Try.prog 84 = some Value.nilFunc := by kernel_rfl
attribute [go_sem] tab_zero_84
theorem tab_zero_85 : tzero Try.prog 85 = some Value.nilFunc := by kernel_rfl
attribute [go_sem] tab_zero_85
theorem tab_zero_86 : tzero Try.prog 86 = some (Value.agg #[Value.slice none 0 0, Value.int IntKind.i64 0]) := by kernel_rfl
attribute [go_sem] tab_zero_86
theorem tab_zero_87 : tzero Try.prog 87 = some (Value.agg #[Value.slice none 0 0, Value.int IntKind.i64 0]) := by kernel_rfl
attribute [go_sem] tab_zero_87
theorem tab_zero_89 : tzero Try.prog 89 = some Value.nilFunc := by kernel_rfl
attribute [go_sem] tab_zero_89
theorem tab_zero_90 : tzero Try.prog 90 = some Value.nilFunc := by kernel_rfl
attribute [go_sem] tab_zero_90
theorem tab_zero_91 : tzero Try.prog 91 = some Value.nilFunc := by kernel_rfl
attribute [go_sem] tab_zero_91
theorem tab_zero_92 : tzero Try.prog 92 = some Value.nilFunc := by kernel_rfl
attribute [go_sem] tab_zero_92
theorem tab_zero_93 : tzero Try.prog 93 = some Value.nilFunc := by kernel_rfl
attribute [go_sem] tab_zero_93
theorem tab_zero_94 : tzero Try.prog 94 = some Value.nilFunc := by kernel_rfl
attribute [go_sem] tab_zero_94
theorem tab_zero_95 : tzero Try.prog 95 = some Value.nilFunc := by kernel_rfl
attribute [go_sem] tab_zero_95
theorem tab_zero_96 : tzero Try.prog 96 = some Value.nilFunc := by kernel_rfl
attribute [go_sem] tab_zero_96
theorem tab_zero_97 : tzero Try.prog 97 = some Value.nilFunc := by kernel_rfl
attribute [go_sem] tab_zero_97
theorem tab_zero_98 : tzero Try.prog 98 = some Value.nilFunc := by kernel_rfl
attribute [go_sem] tab_zero_98
theorem tab_zero_99 : tzero Try.prog 99 = some Value.nilFunc := by kernel_rfl
attribute [go_sem] tab_zero_99
theorem tab_zero_100 : tzero Try.prog 100 = some Value.nilFunc := by kernel_rfl
attribute [go_sem] tab_zero_100
theorem tab_zero_101 : tzero Try.prog 101 = some Value.nilFunc := by kernel_rfl
attribute [go_sem] tab_zero_101
theorem tab_zero_102 : tzero Try.prog 102 = some Value.nilFunc := by kernel_rfl
attribute [go_sem] tab_zero_102
theorem tab_zero_103 : tzero Try.prog 103 = some Value.nilFunc := by kernel_rfl
attribute [go_sem] tab_zero_103
theorem tab_zero_104 : tzero Try.prog 104 = some Value.nilFunc := by kernel_rfl
attribute [go_sem] tab_zero_104
theorem tab_zero_105 : tzero Try.prog 105 = some Value.nilFunc := by kernel_rfl
attribute [go_sem] tab_zero_105
theorem tab_zero_106 : tzero Try.prog 106 = some Value.nilFunc := by kernel_rfl
attribute [go_sem] tab_zero_106
theorem tab_zero_107 : tzero Try.prog 107 = some Value.nilFunc := by kernel_rfl
attribute [go_sem] tab_zero_107
theorem tab_zero_108 : tzero Try.prog 108 = some Value.nilFunc := by kernel_rfl
attribute [go_sem] tab_zero_108
theorem tab_zero_109 : tzero Try.prog 109 = some (Value.int IntKind.u64 0) := by kernel_rfl
attribute [go_sem] tab_zero_109
theorem tab_zero_111 : tzero Try.prog 111 = some Value.nilFunc := by kernel_rfl
attribute [go_sem] tab_zero_111
theorem tab_zero_112 : tzero Try.prog 112 = some Value.nilFunc := by kernel_rfl
attribute [go_sem] tab_zero_112
theorem tab_zero_113 : tzero Try.prog 113 = some Value.nilFunc := by kernel_rfl
attribute [go_sem] tab_zero_113
theorem tab_zero_114 : tzero Try.prog 114 = some Value.nilFunc := by kernel_rfl
attribute [go_sem] tab_zero_114
theorem tab_zero_115 : tzero Try.prog 115 = some Value.nilFunc := by kernel_rfl
attribute [go_sem] tab_zero_115
theorem tab_zero_116 : tzero Try.prog 116 = some Value.nilFunc := by kernel_rfl
attribute [go_sem] tab_zero_116
theorem tab_zero_117 : tzero Try.prog 117 = some (Value.int IntKind.u32 0) := by kernel_rfl
attribute [go_sem] tab_zero_117
theorem tab_zero_119 : tzero Try.prog 119 = some Value.nilFunc := by kernel_rfl
attribute [go_sem] tab_zero_119
theorem tab_zero_120 : tzero Try.prog 120 = some (Value.int IntKind.u64 0) := by kernel_rfl
attribute [go_sem] tab_zero_120
theorem tab_zero_122 : tzero Try.prog 122 = some Value.nilFunc := by kernel_rfl
attribute [go_sem] tab_zero_122
theorem tab_zero_123 : tzero Try.prog 123 = some Value.nilFunc := by kernel_rfl
attribute [go_sem] tab_zero_123
attribute [go_sem] Try.underlying2
attribute [go_sem] Try.underlying3
attribute [go_sem] Try.underlying4
attribute [go_sem] Try.underlying5
attribute [go_sem] Try.underlying6
attribute [go_sem] Try.underlying12
attribute [go_sem] Try.underlying15
attribute [go_sem] Try.underlying16
attribute [go_sem] Try.underlying17
attribute [go_sem] Try.underlying21
attribute [go_sem] Try.underlying35
attribute [go_sem] Try.underlying109
attribute [go_sem] Try.underlying117
attribute [go_sem] Try.underlying120
end Go.Ab
namespace Go.Ab
open Go.RowKit Go.Proofs

structure Span where
  lo : Int
  hi : Int
structure Path where
  frm : Int
  to : Int
  grade : Int
  time : Span
  snow : Span
  opens : List Span
structure Net where
  places : Int
  paths : List Path
structure Party where
  grade : Int
  load : Int
  pace : Span

def Span.row (s : Span) : List DV := [.i s.lo, .i s.hi]
def Path.row (p : Path) : List DV := [.i p.frm, .i p.to, .i p.grade, .i p.time.lo, .i p.time.hi, .i p.snow.lo, .i p.snow.hi, .sl (p.opens.map Span.row)]
def Net.cells (n : Net) : List DV := [.i n.places, .sl (n.paths.map Path.row)]
def Party.cells (p : Party) : List DV := [.i p.grade, .i p.load, .i p.pace.lo, .i p.pace.hi]
def walkCells (n : Net) (p : Party) : List DV := [.i n.places, .sl (n.paths.map Path.row), .i p.grade, .i p.load, .i p.pace.lo, .i p.pace.hi]

abbrev wr (x : Int) : Int := IntKind.i64.wrap x

def timeW (t pace snow load : Int) : Int := wr ((wr (wr (wr (t * pace) * wr (wr (100 + wr (5 * snow)) + load)) + 9999)).tdiv 10000)

theorem foldl_take_succ {α β : Type} (f : β → α → β) (b : β) (l : List α) (i : Nat) (x : α) (h : l[i]? = some x) : (l.take (i + 1)).foldl f b = f ((l.take i).foldl f b) x := by
  rw [List.take_add_one, h]; simp

theorem wr_small {x : Int} (h : -(2 ^ 63) ≤ x ∧ x < 2 ^ 63) : IntKind.i64.wrap x = x := by
  rw [IntKind.wrap_i64]; omega

def withinB (n lo hi : Int) : Bool := decide (lo ≤ n) && decide (n ≤ hi)
def orderedB (s : Span) (lo hi : Int) : Bool := decide (lo ≤ s.lo) && (decide (s.lo ≤ s.hi) && decide (s.hi ≤ hi))

theorem f65 (n lo hi : Int) : Fn Try.prog 65 [.i n, .i lo, .i hi] (.bool (withinB n lo hi)) := by
  refine fn_walk 15 Try.call65 Try.func65 rfl (by decide) fun J => ?_
  simp (maxSteps := 4000000) only [go_sem, St.start, Try.ntmps65, Try.results65]
  by_cases h : lo ≤ n
  · repeat (first | refine walkL_seq ?_ | refine walkL_skip ?_ | refine walkL_block ?_ | (refine walkL_region fun K hK => ?_; simp (maxSteps := 4000000) only [go_sem, h]; refine hK _ ?_; clear hK K) | refine walkL_nil ?_ | refine walkL_ret ?_ | refine walkL_exit ?_ | refine blockA_here ?_ | refine blockA_other rfl ?_ | refine blockA_ret ?_ | refine blockA_normal ?_ | refine thenA_ret ?_ | refine thenA_exit ?_ | refine thenA_normal ?_)
    simp (maxSteps := 4000000) only [go_sem, withinB, h]
  · repeat (first | refine walkL_seq ?_ | refine walkL_skip ?_ | refine walkL_block ?_ | (refine walkL_region fun K hK => ?_; simp (maxSteps := 4000000) only [go_sem, h]; refine hK _ ?_; clear hK K) | refine walkL_nil ?_ | refine walkL_ret ?_ | refine walkL_exit ?_ | refine blockA_here ?_ | refine blockA_other rfl ?_ | refine blockA_ret ?_ | refine blockA_normal ?_ | refine thenA_ret ?_ | refine thenA_exit ?_ | refine thenA_normal ?_)
    simp (maxSteps := 4000000) only [go_sem, withinB, h]

theorem f71 (n lo hi : Int) : Fn Try.prog 71 [.i n, .i lo, .i hi] (.bool (withinB n lo hi)) := by
  refine fn_walk 15 Try.call71 Try.func71 rfl (by decide) fun J => ?_
  simp (maxSteps := 4000000) only [go_sem, St.start, Try.ntmps71, Try.results71]
  by_cases h : lo ≤ n
  · repeat (first | refine walkL_seq ?_ | refine walkL_skip ?_ | refine walkL_block ?_ | (refine walkL_region fun K hK => ?_; simp (maxSteps := 4000000) only [go_sem, h, ge_iff_le]; refine hK _ ?_; clear hK K) | refine walkL_nil ?_ | refine walkL_ret ?_ | refine walkL_exit ?_ | refine blockA_here ?_ | refine blockA_other rfl ?_ | refine blockA_ret ?_ | refine blockA_normal ?_ | refine thenA_ret ?_ | refine thenA_exit ?_ | refine thenA_normal ?_)
    simp (maxSteps := 4000000) only [go_sem, withinB, h]
  · repeat (first | refine walkL_seq ?_ | refine walkL_skip ?_ | refine walkL_block ?_ | (refine walkL_region fun K hK => ?_; simp (maxSteps := 4000000) only [go_sem, h, ge_iff_le]; refine hK _ ?_; clear hK K) | refine walkL_nil ?_ | refine walkL_ret ?_ | refine walkL_exit ?_ | refine blockA_here ?_ | refine blockA_other rfl ?_ | refine blockA_ret ?_ | refine blockA_normal ?_ | refine thenA_ret ?_ | refine thenA_exit ?_ | refine thenA_normal ?_)
    simp (maxSteps := 4000000) only [go_sem, withinB, h]

theorem f67 (s : Span) (lo hi : Int) : Fn Try.prog 67 [.agg s.row, .i lo, .i hi] (.bool (orderedB s lo hi)) := by
  refine fn_walk 24 Try.call67 Try.func67 rfl (by decide) fun J => ?_
  simp (maxSteps := 4000000) only [go_sem, St.start, Try.ntmps67, Try.results67, Span.row]
  by_cases h : lo ≤ s.lo <;> by_cases h2 : s.lo ≤ s.hi
  all_goals
    repeat (first | refine walkL_seq ?_ | refine walkL_skip ?_ | refine walkL_block ?_ | (refine walkL_region fun K hK => ?_; simp (maxSteps := 4000000) only [go_sem, h, h2]; refine hK _ ?_; clear hK K) | refine walkL_nil ?_ | refine walkL_ret ?_ | refine walkL_exit ?_ | refine blockA_here ?_ | refine blockA_other rfl ?_ | refine blockA_ret ?_ | refine blockA_normal ?_ | refine thenA_ret ?_ | refine thenA_exit ?_ | refine thenA_normal ?_)
    simp (maxSteps := 4000000) only [go_sem, orderedB, h, h2]

theorem f72 (s : Span) (lo hi : Int) : Fn Try.prog 72 [.agg s.row, .i lo, .i hi] (.bool (orderedB s lo hi)) := by
  refine fn_walk 24 Try.call72 Try.func72 rfl (by decide) fun J => ?_
  simp (maxSteps := 4000000) only [go_sem, St.start, Try.ntmps72, Try.results72, Span.row]
  by_cases h : lo ≤ s.lo <;> by_cases h2 : s.lo ≤ s.hi
  all_goals
    repeat (first | refine walkL_seq ?_ | refine walkL_skip ?_ | refine walkL_block ?_ | (refine walkL_region fun K hK => ?_; simp (maxSteps := 4000000) only [go_sem, h, h2, ge_iff_le]; refine hK _ ?_; clear hK K) | refine walkL_nil ?_ | refine walkL_ret ?_ | refine walkL_exit ?_ | refine blockA_here ?_ | refine blockA_other rfl ?_ | refine blockA_ret ?_ | refine blockA_normal ?_ | refine thenA_ret ?_ | refine thenA_exit ?_ | refine thenA_normal ?_)
    simp (maxSteps := 4000000) only [go_sem, orderedB, h, h2]

theorem f64 (n : Net) (x : Int) (hn : 0 ≤ n.places ∧ n.places < 2 ^ 62) : Fn Try.prog 64 [.i x, .ptr n.cells 0] (.bool (withinB x 0 (n.places - 1))) := by
  refine fn_walk 9 Try.call64 Try.func64 rfl (by decide) fun J => ?_
  simp (maxSteps := 4000000) only [go_sem, St.start, Try.ntmps64, Try.results64, Net.cells]
  have hw : IntKind.i64.wrap (n.places - 1) = n.places - 1 := wr_small (by omega)
  repeat (first | refine walkL_seq ?_ | refine walkL_skip ?_ | refine walkL_block ?_ | (refine walkL_region fun K hK => ?_; simp (maxSteps := 4000000) only [go_sem, hw]; (repeat (first | (refine ⟨_, .lent (hf := f65 _ _ _) (hd := rfl) (hr := rfl), ?_⟩; simp (maxSteps := 4000000) only [go_sem, hw]) | (refine ⟨_, .given (hf := f65 _ _ _) (hd := rfl) (ha := rfl), ?_⟩; simp (maxSteps := 4000000) only [go_sem, hw]))); refine hK _ ?_; clear hK K) | refine walkL_nil ?_ | refine walkL_ret ?_ | refine walkL_exit ?_ | refine blockA_here ?_ | refine blockA_other rfl ?_ | refine blockA_ret ?_ | refine blockA_normal ?_ | refine thenA_ret ?_ | refine thenA_exit ?_ | refine thenA_normal ?_)
  simp (maxSteps := 4000000) only [go_sem]

theorem f57 (n : Net) (x : Int) (hn : -(2 ^ 62) ≤ n.places ∧ n.places < 2 ^ 62) : Fn Try.prog 57 [.agg n.cells, .i x] (.bool (withinB x 0 (n.places - 1))) := by
  refine fn_walk 10 Try.call57 Try.func57 rfl (by decide) fun J => ?_
  simp (maxSteps := 4000000) only [go_sem, St.start, Try.ntmps57, Try.results57, Net.cells]
  have hw : IntKind.i64.wrap (n.places - 1) = n.places - 1 := wr_small (by omega)
  repeat (first | refine walkL_seq ?_ | refine walkL_skip ?_ | refine walkL_block ?_ | (refine walkL_region fun K hK => ?_; simp (maxSteps := 4000000) only [go_sem, hw]; (repeat (first | (refine ⟨_, .lent (hf := f71 _ _ _) (hd := rfl) (hr := rfl), ?_⟩; simp (maxSteps := 4000000) only [go_sem, hw]) | (refine ⟨_, .given (hf := f71 _ _ _) (hd := rfl) (ha := rfl), ?_⟩; simp (maxSteps := 4000000) only [go_sem, hw]))); refine hK _ ?_; clear hK K) | refine walkL_nil ?_ | refine walkL_ret ?_ | refine walkL_exit ?_ | refine blockA_here ?_ | refine blockA_other rfl ?_ | refine blockA_ret ?_ | refine blockA_normal ?_ | refine thenA_ret ?_ | refine thenA_exit ?_ | refine thenA_normal ?_)
  simp (maxSteps := 4000000) only [go_sem]

theorem f58 (x : Int) : Fn Try.prog 58 [.i x] (.bool (withinB x 0 2880)) := by
  refine fn_walk 5 Try.call58 Try.func58 rfl (by decide) fun J => ?_
  simp (maxSteps := 4000000) only [go_sem, St.start, Try.ntmps58, Try.results58]
  repeat (first | refine walkL_seq ?_ | refine walkL_skip ?_ | refine walkL_block ?_ | (refine walkL_region fun K hK => ?_; simp (maxSteps := 4000000) only [go_sem]; (repeat (first | (refine ⟨_, .lent (hf := f71 _ _ _) (hd := rfl) (hr := rfl), ?_⟩; simp (maxSteps := 4000000) only [go_sem]) | (refine ⟨_, .given (hf := f71 _ _ _) (hd := rfl) (ha := rfl), ?_⟩; simp (maxSteps := 4000000) only [go_sem]))); refine hK _ ?_; clear hK K) | refine walkL_nil ?_ | refine walkL_ret ?_ | refine walkL_exit ?_ | refine blockA_here ?_ | refine blockA_other rfl ?_ | refine blockA_ret ?_ | refine blockA_normal ?_ | refine thenA_ret ?_ | refine thenA_exit ?_ | refine thenA_normal ?_)
  simp (maxSteps := 4000000) only [go_sem]

theorem f33 (n : Net) (x : Int) (hn : n.paths.length < 2 ^ 62) : Fn Try.prog 33 [.agg n.cells, .i x] (.bool (withinB x 0 (n.paths.length - 1))) := by
  refine fn_walk 11 Try.call33 Try.func33 rfl (by decide) fun J => ?_
  simp (maxSteps := 4000000) only [go_sem, St.start, Try.ntmps33, Try.results33, Net.cells]
  have hw : IntKind.i64.wrap ((n.paths.length : Int) - 1) = n.paths.length - 1 := wr_small (by omega)
  repeat (first | refine walkL_seq ?_ | refine walkL_skip ?_ | refine walkL_block ?_ | (refine walkL_region fun K hK => ?_; simp (maxSteps := 4000000) only [go_sem, hw]; (repeat (first | (refine ⟨_, .lent (hf := f71 _ _ _) (hd := rfl) (hr := rfl), ?_⟩; simp (maxSteps := 4000000) only [go_sem, hw]) | (refine ⟨_, .given (hf := f71 _ _ _) (hd := rfl) (ha := rfl), ?_⟩; simp (maxSteps := 4000000) only [go_sem, hw]))); refine hK _ ?_; clear hK K) | refine walkL_nil ?_ | refine walkL_ret ?_ | refine walkL_exit ?_ | refine blockA_here ?_ | refine blockA_other rfl ?_ | refine blockA_ret ?_ | refine blockA_normal ?_ | refine thenA_ret ?_ | refine thenA_exit ?_ | refine thenA_normal ?_)
  simp (maxSteps := 4000000) only [go_sem]

theorem f66 (s : Span) (n : DV) : Fn Try.prog 66 [.agg s.row] (.bool (!orderedB s 0 2880)) := by
  refine fn_walk 6 Try.call66 Try.func66 rfl (by decide) fun J => ?_
  simp (maxSteps := 4000000) only [go_sem, St.start, Try.ntmps66, Try.results66, Span.row]
  repeat (first | refine walkL_seq ?_ | refine walkL_skip ?_ | refine walkL_block ?_ | (refine walkL_region fun K hK => ?_; simp (maxSteps := 4000000) only [go_sem]; (repeat (first | (refine ⟨_, .lent (hf := f67 s _ _) (hd := rfl) (hr := rfl), ?_⟩; simp (maxSteps := 4000000) only [go_sem]) | (refine ⟨_, .given (hf := f67 s _ _) (hd := rfl) (ha := rfl), ?_⟩; simp (maxSteps := 4000000) only [go_sem]))); refine hK _ ?_; clear hK K) | refine walkL_nil ?_ | refine walkL_ret ?_ | refine walkL_exit ?_ | refine blockA_here ?_ | refine blockA_other rfl ?_ | refine blockA_ret ?_ | refine blockA_normal ?_ | refine thenA_ret ?_ | refine thenA_exit ?_ | refine thenA_normal ?_)
  simp (maxSteps := 4000000) only [go_sem]

theorem f43 (s : Span) : Fn Try.prog 43 [.agg s.row] (.i s.hi) := by
  refine fn_walk 5 Try.call43 Try.func43 rfl (by decide) fun J => ?_
  simp (maxSteps := 4000000) only [go_sem, St.start, Try.ntmps43, Try.results43, Span.row]
  repeat (first | refine walkL_seq ?_ | refine walkL_skip ?_ | refine walkL_block ?_ | (refine walkL_region fun K hK => ?_; simp (maxSteps := 4000000) only [go_sem]; refine hK _ ?_; clear hK K) | refine walkL_nil ?_ | refine walkL_ret ?_ | refine walkL_exit ?_ | refine blockA_here ?_ | refine blockA_other rfl ?_ | refine blockA_ret ?_ | refine blockA_normal ?_ | refine thenA_ret ?_ | refine thenA_exit ?_ | refine thenA_normal ?_)
  simp (maxSteps := 4000000) only [go_sem]

theorem f60 (s : Span) : Fn Try.prog 60 [.agg s.row] (.i s.lo) := by
  refine fn_walk 5 Try.call60 Try.func60 rfl (by decide) fun J => ?_
  simp (maxSteps := 4000000) only [go_sem, St.start, Try.ntmps60, Try.results60, Span.row]
  repeat (first | refine walkL_seq ?_ | refine walkL_skip ?_ | refine walkL_block ?_ | (refine walkL_region fun K hK => ?_; simp (maxSteps := 4000000) only [go_sem]; refine hK _ ?_; clear hK K) | refine walkL_nil ?_ | refine walkL_ret ?_ | refine walkL_exit ?_ | refine blockA_here ?_ | refine blockA_other rfl ?_ | refine blockA_ret ?_ | refine blockA_normal ?_ | refine thenA_ret ?_ | refine thenA_exit ?_ | refine thenA_normal ?_)
  simp (maxSteps := 4000000) only [go_sem]

theorem f82 (lo hi : Int) : Fn Try.prog 82 [.i lo, .i hi] (.agg [.i lo, .i hi]) := by
  refine fn_walk 8 Try.call82 Try.func82 rfl (by decide) fun J => ?_
  simp (maxSteps := 4000000) only [go_sem, St.start, Try.ntmps82, Try.results82]
  repeat (first | refine walkL_seq ?_ | refine walkL_skip ?_ | refine walkL_block ?_ | (refine walkL_region fun K hK => ?_; simp (maxSteps := 4000000) only [go_sem]; refine hK _ ?_; clear hK K) | refine walkL_nil ?_ | refine walkL_ret ?_ | refine walkL_exit ?_ | refine blockA_here ?_ | refine blockA_other rfl ?_ | refine blockA_ret ?_ | refine blockA_normal ?_ | refine thenA_ret ?_ | refine thenA_exit ?_ | refine thenA_normal ?_)
  simp (maxSteps := 4000000) only [go_sem]

theorem f61 (n : Net) (p : Party) (i : Nat) (x : Path) (hx : n.paths[i]? = some x) : Fn Try.prog 61 [.agg n.cells, .agg p.cells, .i i] (.bool (decide (x.grade ≤ p.grade))) := by
  refine fn_walk 16 Try.call61 Try.func61 rfl (by decide) fun J => ?_
  simp (maxSteps := 4000000) only [go_sem, St.start, Try.ntmps61, Try.results61, Net.cells, Party.cells]
  repeat (first | refine walkL_seq ?_ | refine walkL_skip ?_ | refine walkL_block ?_ | (refine walkL_region fun K hK => ?_; simp (maxSteps := 4000000) only [go_sem, hx, List.getElem?_map, Path.row]; refine hK _ ?_; clear hK K) | (refine walkL_drawn (by kernel_rfl) (by kernel_rfl) fun K hK => ?_; simp (maxSteps := 4000000) only [go_sem, hx, List.getElem?_map, Path.row]; refine ⟨by kernel_rfl, hK _ ?_⟩; clear hK K) | refine walkL_nil ?_ | refine walkL_ret ?_ | refine walkL_exit ?_ | refine blockA_here ?_ | refine blockA_other rfl ?_ | refine blockA_ret ?_ | refine blockA_normal ?_ | refine thenA_ret ?_ | refine thenA_exit ?_ | refine thenA_normal ?_)
  simp (maxSteps := 4000000) only [go_sem]

theorem f74 (n : Net) (p : Party) (i : Nat) (x : Path) (hx : n.paths[i]? = some x) : Fn Try.prog 74 [.agg (walkCells n p), .i i] (.bool (decide (x.grade ≤ p.grade))) := by
  refine fn_walk 16 Try.call74 Try.func74 rfl (by decide) fun J => ?_
  simp (maxSteps := 4000000) only [go_sem, St.start, Try.ntmps74, Try.results74, walkCells]
  repeat (first | refine walkL_seq ?_ | refine walkL_skip ?_ | refine walkL_block ?_ | (refine walkL_region fun K hK => ?_; simp (maxSteps := 4000000) only [go_sem, hx, List.getElem?_map, Path.row]; refine hK _ ?_; clear hK K) | (refine walkL_drawn (by kernel_rfl) (by kernel_rfl) fun K hK => ?_; simp (maxSteps := 4000000) only [go_sem, hx, List.getElem?_map, Path.row]; refine ⟨by kernel_rfl, hK _ ?_⟩; clear hK K) | refine walkL_nil ?_ | refine walkL_ret ?_ | refine walkL_exit ?_ | refine blockA_here ?_ | refine blockA_other rfl ?_ | refine blockA_ret ?_ | refine blockA_normal ?_ | refine thenA_ret ?_ | refine thenA_exit ?_ | refine thenA_normal ?_)
  simp (maxSteps := 4000000) only [go_sem]

theorem f88 (t pace snow : Int) (n : Net) (p : Party) : Fn Try.prog 88 [.i t, .i pace, .i snow, .ptr (walkCells n p) 0] (.i (timeW t pace snow p.load)) := by
  refine fn_walk 21 Try.call88 Try.func88 rfl (by decide) fun J => ?_
  simp (maxSteps := 4000000) only [go_sem, St.start, Try.ntmps88, Try.results88, walkCells]
  repeat (first | refine walkL_seq ?_ | refine walkL_skip ?_ | refine walkL_block ?_ | (refine walkL_region fun K hK => ?_; simp (maxSteps := 4000000) only [go_sem]; refine hK _ ?_; clear hK K) | refine walkL_nil ?_ | refine walkL_ret ?_ | refine walkL_exit ?_ | refine blockA_here ?_ | refine blockA_other rfl ?_ | refine blockA_ret ?_ | refine blockA_normal ?_ | refine thenA_ret ?_ | refine thenA_exit ?_ | refine thenA_normal ?_)
  simp (maxSteps := 4000000) only [go_sem, timeW]

theorem f63 (t pace snow load : Int) : Fn Try.prog 63 [.i t, .i pace, .i snow, .i load] (.i (timeW t pace snow load)) := by
  refine fn_walk 20 Try.call63 Try.func63 rfl (by decide) fun J => ?_
  simp (maxSteps := 4000000) only [go_sem, St.start, Try.ntmps63, Try.results63]
  repeat (first | refine walkL_seq ?_ | refine walkL_skip ?_ | refine walkL_block ?_ | (refine walkL_region fun K hK => ?_; simp (maxSteps := 4000000) only [go_sem]; refine hK _ ?_; clear hK K) | refine walkL_nil ?_ | refine walkL_ret ?_ | refine walkL_exit ?_ | refine blockA_here ?_ | refine blockA_other rfl ?_ | refine blockA_ret ?_ | refine blockA_normal ?_ | refine thenA_ret ?_ | refine thenA_exit ?_ | refine thenA_normal ?_)
  simp (maxSteps := 4000000) only [go_sem, timeW]

/-- Enter, as the program and its document reckon it. -/
def enterF (opens : List Span) (t : Int) : Int := opens.foldl (fun f s => if t ≤ s.hi then min f (max t s.lo) else f) 1073741824

theorem f62 (x : Path) (t : Int) (hl : x.opens.length < 2 ^ 62) : Fn Try.prog 62 [.agg x.row, .i t] (.i (enterF x.opens t)) := by
  refine fn_walk 33 Try.call62 Try.func62 rfl (by decide) fun J => ?_
  simp (maxSteps := 4000000) only [go_sem, St.start, Try.ntmps62, Try.results62, Path.row]
  repeat (first | refine walkL_seq ?_ | refine walkL_skip ?_ | refine walkL_block ?_ | (refine walkL_region fun K hK => ?_; simp (maxSteps := 4000000) only [go_sem]; refine hK _ ?_; clear hK K) | refine walkL_nil ?_ | refine walkL_ret ?_ | refine walkL_exit ?_ | refine blockA_here ?_ | refine blockA_other rfl ?_ | refine blockA_ret ?_ | refine blockA_normal ?_ | refine thenA_ret ?_ | refine thenA_exit ?_ | refine thenA_normal ?_)
  refine walkL_loopS (fun (i : Nat) => [(5, .d (.i (enterF (x.opens.take i) t))), (6, .d (.i i))]) (fun _ => []) (fun i => i ≤ x.opens.length) (fun i => x.opens.length - i) 0 ?_ (Nat.zero_le _) ?_
  · simp (maxSteps := 4000000) only [go_sem]
    refine weak_of [] ?_ ?_ rfl rfl <;> simp [lessT, lessM, lessB, AV.less]
    rfl
  · intro i hi
    simp (maxSteps := 4000000) only [go_sem]
    repeat (first | refine walkL_seq ?_ | refine walkL_skip ?_ | refine walkL_block ?_ | (refine walkL_region fun K hK => ?_; simp (maxSteps := 4000000) only [go_sem]; refine hK _ ?_; clear hK K) | refine walkL_nil ?_ | refine walkL_ret ?_ | refine walkL_exit ?_ | refine blockA_here ?_ | refine blockA_other rfl ?_ | refine blockA_ret ?_ | refine blockA_normal ?_ | refine thenA_ret ?_ | refine thenA_exit ?_ | refine thenA_normal ?_)
    refine walkL_cond rfl (fun hb => ?_) (fun hb => ?_)
    · have hlt : i < x.opens.length := by simpa using hb
      obtain ⟨s, hs⟩ : ∃ s, x.opens[i]? = some s := ⟨_, List.getElem?_eq_getElem hlt⟩
      have hw : IntKind.i64.wrap ((i : Int) + 1) = ((i + 1 : Nat) : Int) := by rw [wr_small (by omega)]; simp
      have hn : enterF (x.opens.take (i + 1)) t = if t ≤ s.hi then min (enterF (x.opens.take i) t) (max t s.lo) else enterF (x.opens.take i) t := foldl_take_succ _ _ _ _ _ hs
      repeat (first | refine walkL_seq ?_ | refine walkL_skip ?_ | refine walkL_block ?_ | (refine walkL_region fun K hK => ?_; simp (maxSteps := 4000000) only [go_sem, hs, List.getElem?_map, Span.row, hw]; refine hK _ ?_; clear hK K) | refine walkL_nil ?_ | refine walkL_ret ?_ | refine walkL_exit ?_ | refine blockA_here ?_ | refine blockA_other rfl ?_ | refine blockA_ret ?_ | refine blockA_normal ?_ | refine thenA_ret ?_ | refine thenA_exit ?_ | refine thenA_normal ?_)
      refine walkL_cond rfl (fun hc => ?_) (fun hc => ?_)
      · have hc : t ≤ s.hi := by simpa using hc
        repeat (first | refine walkL_seq ?_ | refine walkL_skip ?_ | refine walkL_block ?_ | (refine walkL_region fun K hK => ?_; simp (maxSteps := 4000000) only [go_sem, hs, List.getElem?_map, Span.row, hw]; refine hK _ ?_; clear hK K) | refine walkL_nil ?_ | refine walkL_ret ?_ | refine walkL_exit ?_ | refine blockA_here ?_ | refine blockA_other rfl ?_ | refine blockA_ret ?_ | refine blockA_normal ?_ | refine thenA_ret ?_ | refine thenA_exit ?_ | refine thenA_normal ?_)
        refine ⟨rfl, i + 1, ?_, hlt, by omega⟩
        rw [hn, if_pos hc]
        refine weak_of [] ?_ ?_ rfl rfl <;> simp [lessT, lessM, lessB, AV.less]
      · have hc : ¬ t ≤ s.hi := by simpa using hc
        repeat (first | refine walkL_seq ?_ | refine walkL_skip ?_ | refine walkL_block ?_ | (refine walkL_region fun K hK => ?_; simp (maxSteps := 4000000) only [go_sem, hs, List.getElem?_map, Span.row, hw]; refine hK _ ?_; clear hK K) | refine walkL_nil ?_ | refine walkL_ret ?_ | refine walkL_exit ?_ | refine blockA_here ?_ | refine blockA_other rfl ?_ | refine blockA_ret ?_ | refine blockA_normal ?_ | refine thenA_ret ?_ | refine thenA_exit ?_ | refine thenA_normal ?_)
        refine ⟨rfl, i + 1, ?_, hlt, by omega⟩
        rw [hn, if_neg hc]
        refine weak_of [] ?_ ?_ rfl rfl <;> simp [lessT, lessM, lessB, AV.less]
    · have he : i = x.opens.length := by have : ¬ i < x.opens.length := by simpa using hb
                                         omega
      subst he
      repeat (first | refine walkL_seq ?_ | refine walkL_skip ?_ | refine walkL_block ?_ | (refine walkL_region fun K hK => ?_; simp (maxSteps := 4000000) only [go_sem]; refine hK _ ?_; clear hK K) | refine walkL_nil ?_ | refine walkL_ret ?_ | refine walkL_exit ?_ | refine blockA_here ?_ | refine blockA_other rfl ?_ | refine blockA_ret ?_ | refine blockA_normal ?_ | refine thenA_ret ?_ | refine thenA_exit ?_ | refine thenA_normal ?_)
      simp (maxSteps := 4000000) only [go_sem, List.take_length]
end Go.Ab
