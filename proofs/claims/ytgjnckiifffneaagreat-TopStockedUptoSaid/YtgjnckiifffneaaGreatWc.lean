/- A walk engine over abstract states, and the contracts of the functions that the statement reaches: part 3. -/
import Derived.Test.YtgjnckiifffneaaGreatWb
import Derived.Test.YtgjnckiifffneaaGreatProg
set_option linter.unusedVariables false
set_option linter.unusedSimpArgs false
set_option linter.unnecessarySimpa false
/- Drawn regions in which something is appended: what named the array before is forgotten. -/
namespace Go.Ab
open Go.RowKit
def AV.whole : AV → Bool
  | .undef => false
  | .agg cs | .tup cs | .fn _ cs => AV.wholes cs
  | _ => true
where AV.wholes : List AV → Bool
  | [] => true
  | x :: xs => x.whole && AV.wholes xs
def AV.lose (n : Nat) (x : AV) : AV := x.sub n fun _ => .undef
mutual
theorem lose_same (n : Nat) : ∀ (x : AV), n ∉ x.refs → x.sub n (fun _ => .undef) = x
  | .box k o, h => by simp only [AV.refs, List.mem_singleton] at h; simp only [AV.sub]; rw [if_neg (fun e => h e.symm)]
  | .elem k i o, h => by simp only [AV.refs, List.mem_singleton] at h; simp only [AV.sub]; rw [if_neg (fun e => h e.symm)]
  | .own k, h => by simp only [AV.refs, List.mem_singleton] at h; simp only [AV.sub]; rw [if_neg (fun e => h e.symm)]
  | .view k o l, h => by simp only [AV.refs, List.mem_singleton] at h; simp only [AV.sub]; rw [if_neg (fun e => h e.symm)]
  | .bsl k l, h => by simp only [AV.refs, List.mem_singleton] at h; simp only [AV.sub]; rw [if_neg (fun e => h e.symm)]
  | .mp k, h => by simp only [AV.refs, List.mem_singleton] at h; simp only [AV.sub]; rw [if_neg (fun e => h e.symm)]
  | .vh k l, h => by simp only [AV.refs, List.mem_singleton] at h; simp only [AV.sub]; rw [if_neg (fun e => h e.symm)]
  | .vc k l, h => by simp only [AV.refs, List.mem_singleton] at h; simp only [AV.sub]; rw [if_neg (fun e => h e.symm)]
  | .agg cs, h => by simp only [AV.sub]; rw [z112 n cs (by simpa [AV.refs] using h)]
  | .tup cs, h => by simp only [AV.sub]; rw [z112 n cs (by simpa [AV.refs] using h)]
  | .fn f cs, h => by simp only [AV.sub]; rw [z112 n cs (by simpa [AV.refs] using h)]
  | .undef, _ => rfl
  | .void, _ => rfl
  | .d _, _ => rfl
  | .nil, _ => rfl
  | .dfull _, _ => rfl
theorem z112 (n : Nat) : ∀ (l : List AV), n ∉ AV.refs.AV.refss l → AV.sub.AV.subs n (fun _ => .undef) l = l
  | [], _ => rfl
  | x :: xs, h => by
    simp only [AV.refs.AV.refss, List.mem_append, not_or] at h
    simp only [AV.sub.AV.subs]
    rw [lose_same n x h.1, z112 n xs h.2]
end
mutual
theorem lose_whole (n : Nat) : ∀ (x : AV), (x.sub n (fun _ => .undef)).whole = true → n ∉ x.refs
  | .box k o, h => by
    simp only [AV.sub] at h
    split at h
    · simp [AV.whole] at h
    · rename_i hk; simp only [AV.refs, List.mem_singleton]; exact fun e => hk e.symm
  | .elem k i o, h => by
    simp only [AV.sub] at h
    split at h
    · simp [AV.whole] at h
    · rename_i hk; simp only [AV.refs, List.mem_singleton]; exact fun e => hk e.symm
  | .own k, h => by
    simp only [AV.sub] at h
    split at h
    · simp [AV.whole] at h
    · rename_i hk; simp only [AV.refs, List.mem_singleton]; exact fun e => hk e.symm
  | .view k o l, h => by
    simp only [AV.sub] at h
    split at h
    · simp [AV.whole] at h
    · rename_i hk; simp only [AV.refs, List.mem_singleton]; exact fun e => hk e.symm
  | .bsl k l, h => by
    simp only [AV.sub] at h
    split at h
    · simp [AV.whole] at h
    · rename_i hk; simp only [AV.refs, List.mem_singleton]; exact fun e => hk e.symm
  | .mp k, h => by
    simp only [AV.sub] at h
    split at h
    · simp [AV.whole] at h
    · rename_i hk; simp only [AV.refs, List.mem_singleton]; exact fun e => hk e.symm
  | .vh k l, h => by
    simp only [AV.sub] at h
    split at h
    · simp [AV.whole] at h
    · rename_i hk; simp only [AV.refs, List.mem_singleton]; exact fun e => hk e.symm
  | .vc k l, h => by
    simp only [AV.sub] at h
    split at h
    · simp [AV.whole] at h
    · rename_i hk; simp only [AV.refs, List.mem_singleton]; exact fun e => hk e.symm
  | .dfull _, _ => by simp [AV.refs]
  | .agg cs, h => by simp only [AV.refs]; exact z119 n cs (by simpa [AV.sub, AV.whole] using h)
  | .tup cs, h => by simp only [AV.refs]; exact z119 n cs (by simpa [AV.sub, AV.whole] using h)
  | .fn f cs, h => by simp only [AV.refs]; exact z119 n cs (by simpa [AV.sub, AV.whole] using h)
  | .undef, _ => by simp [AV.refs]
  | .void, _ => by simp [AV.refs]
  | .d _, _ => by simp [AV.refs]
  | .nil, _ => by simp [AV.refs]
theorem z119 (n : Nat) : ∀ (l : List AV), AV.whole.AV.wholes (AV.sub.AV.subs n (fun _ => .undef) l) = true → n ∉ AV.refs.AV.refss l
  | [], _ => by simp [AV.refs.AV.refss]
  | x :: xs, h => by
    simp only [AV.sub.AV.subs, AV.whole.AV.wholes, Bool.and_eq_true] at h
    simp only [AV.refs.AV.refss, List.mem_append, not_or]
    exact ⟨lose_whole n x h.1, z119 n xs h.2⟩
end
mutual
theorem sub_same (n : Nat) (f : AV → AV) : ∀ (x : AV), n ∉ x.refs → x.sub n f = x
  | .box k o, h => by simp only [AV.refs, List.mem_singleton] at h; simp only [AV.sub]; rw [if_neg (fun e => h e.symm)]
  | .elem k i o, h => by simp only [AV.refs, List.mem_singleton] at h; simp only [AV.sub]; rw [if_neg (fun e => h e.symm)]
  | .own k, h => by simp only [AV.refs, List.mem_singleton] at h; simp only [AV.sub]; rw [if_neg (fun e => h e.symm)]
  | .view k o l, h => by simp only [AV.refs, List.mem_singleton] at h; simp only [AV.sub]; rw [if_neg (fun e => h e.symm)]
  | .bsl k l, h => by simp only [AV.refs, List.mem_singleton] at h; simp only [AV.sub]; rw [if_neg (fun e => h e.symm)]
  | .mp k, h => by simp only [AV.refs, List.mem_singleton] at h; simp only [AV.sub]; rw [if_neg (fun e => h e.symm)]
  | .vh k l, h => by simp only [AV.refs, List.mem_singleton] at h; simp only [AV.sub]; rw [if_neg (fun e => h e.symm)]
  | .vc k l, h => by simp only [AV.refs, List.mem_singleton] at h; simp only [AV.sub]; rw [if_neg (fun e => h e.symm)]
  | .agg cs, h => by simp only [AV.sub]; rw [z108 n f cs (by simpa [AV.refs] using h)]
  | .tup cs, h => by simp only [AV.sub]; rw [z108 n f cs (by simpa [AV.refs] using h)]
  | .fn g cs, h => by simp only [AV.sub]; rw [z108 n f cs (by simpa [AV.refs] using h)]
  | .undef, _ => rfl
  | .void, _ => rfl
  | .d _, _ => rfl
  | .nil, _ => rfl
  | .dfull _, _ => rfl
theorem z108 (n : Nat) (f : AV → AV) : ∀ (l : List AV), n ∉ AV.refs.AV.refss l → AV.sub.AV.subs n f l = l
  | [], _ => rfl
  | x :: xs, h => by
    simp only [AV.refs.AV.refss, List.mem_append, not_or] at h
    simp only [AV.sub.AV.subs]
    rw [sub_same n f x h.1, z108 n f xs h.2]
end
mutual
theorem lose_gone (n : Nat) : ∀ (x : AV), n ∉ (x.sub n (fun _ => .undef)).refs
  | .box k o => by simp only [AV.sub]; split <;> simp_all [AV.refs, eq_comm]
  | .elem k i o => by simp only [AV.sub]; split <;> simp_all [AV.refs, eq_comm]
  | .own k => by simp only [AV.sub]; split <;> simp_all [AV.refs, eq_comm]
  | .view k o l => by simp only [AV.sub]; split <;> simp_all [AV.refs, eq_comm]
  | .bsl k l => by simp only [AV.sub]; split <;> simp_all [AV.refs, eq_comm]
  | .mp k => by simp only [AV.sub]; split <;> simp_all [AV.refs, eq_comm]
  | .vh k l => by simp only [AV.sub]; split <;> simp_all [AV.refs, eq_comm]
  | .vc k l => by simp only [AV.sub]; split <;> simp_all [AV.refs, eq_comm]
  | .dfull _ => by simp [AV.sub, AV.refs]
  | .agg cs => by simp only [AV.sub, AV.refs]; exact z113 n cs
  | .tup cs => by simp only [AV.sub, AV.refs]; exact z113 n cs
  | .fn g cs => by simp only [AV.sub, AV.refs]; exact z113 n cs
  | .undef => by simp [AV.sub, AV.refs]
  | .void => by simp [AV.sub, AV.refs]
  | .d _ => by simp [AV.sub, AV.refs]
  | .nil => by simp [AV.sub, AV.refs]
theorem z113 (n : Nat) : ∀ (l : List AV), n ∉ AV.refs.AV.refss (AV.sub.AV.subs n (fun _ => .undef) l)
  | [] => by simp [AV.sub.AV.subs, AV.refs.AV.refss]
  | x :: xs => by
    simp only [AV.sub.AV.subs, AV.refs.AV.refss, List.mem_append, not_or]
    exact ⟨lose_gone n x, z113 n xs⟩
end
theorem StRel.rename0 {P : Program} {base out : Own} {st : St} {μ : Pl} {tmps : Array Value} {w : World} (h : StRel P base out st μ tmps w) {n : Nat} (hn : μ n = none) (hl : n < st.m.length) (e z : Nat) :
    ∃ μ', StRel P base out { t := st.t, m := st.m.set n (some (.arr e z [])) } μ' tmps w ∧ ∀ b, ownOf out μ' b → ownOf out μ b := by
  have hown : ∀ b, ownOf out (μ.upd n (some .none0)) b → ownOf out μ b := by
    rintro b (hb | ⟨k, z, l, c, hb⟩)
    · exact .inl hb
    · by_cases hk : k = n
      · subst hk; rw [Pl.upd_same] at hb; cases hb
      · rw [Pl.upd_ne μ _ hk] at hb; exact .inr ⟨k, z, l, c, hb⟩
  have hg : Goes w (ownOf out μ) w (ownOf out (μ.upd n (some .none0))) := fun b o v h1 h2 => ⟨fun hc => h1 (hown b hc), h2⟩
  have hμ : ∀ k, (μ k).isSome → μ.upd n (some .none0) k = μ k := fun k hk => Pl.upd_ne μ _ (fun e => by subst e; rw [hn] at hk; cases hk)
  refine ⟨μ.upd n (some .none0), ⟨h.size, fun i x v h1 h2 => (h.tmp i x v h1 h2).goes hg (fun n _ hs => hμ n hs), ⟨fun k b hk => ?_, fun k hk => ?_, fun k q b z l c z' l' c' h1 h2 => ?_, fun k b z l c hb => ?_⟩, h.hid.less hown, h.out, h.le⟩, hown⟩
  · rw [List.getElem?_set] at hk
    by_cases hkn : n = k
    · subst hkn
      rw [if_pos rfl, if_pos hl] at hk
      cases hk
      exact .inl ⟨Pl.upd_same μ n _, rfl⟩
    · rw [if_neg hkn] at hk
      exact (h.mem.blk k b hk).goes hg (Pl.upd_ne μ _ (Ne.symm hkn)) hμ (fun _ _ _ _ _ => rfl)
  · rw [List.getElem?_set]
    by_cases hkn : n = k
    · subst hkn; exact ⟨.arr e z [], by rw [if_pos rfl, if_pos hl]⟩
    · rw [if_neg hkn]
      rw [Pl.upd_ne μ _ (Ne.symm hkn)] at hk
      exact h.mem.dom k hk
  · by_cases hk : k = n
    · subst hk; rw [Pl.upd_same] at h1; cases h1
    · by_cases hq : q = n
      · subst hq; rw [Pl.upd_same] at h2; cases h2
      · rw [Pl.upd_ne μ _ hk] at h1
        rw [Pl.upd_ne μ _ hq] at h2
        exact h.mem.inj k q b z l c z' l' c' h1 h2
  · by_cases hk : k = n
    · subst hk; rw [Pl.upd_same] at hb; cases hb
    · rw [Pl.upd_ne μ _ hk] at hb
      exact h.mem.base k b z l c hb
def killT : Option Nat → List AV → List AV
  | none, t => t
  | some n, t => t.map (AV.sub n fun _ => .undef)
def killM : Option Nat → List (Option Blk) → List (Option Blk)
  | none, m => m
  | some n, m => subMem n (fun _ => .undef) m
def St.applyA (st : St) (dst : Option Tmp) (e : Eff) (k : Option Nat) : St := ({ t := killT k st.t, m := killM k st.m } : St).apply dst e
def appOf (P : Program) (st : St) (dst : Option Tmp) (t t' : TypeId) (s x : AV) : Option (Eff × Option Nat) := if t' = t then match dst, tslice P t with
  | some d, some e => match tsz P e, tbytes P e, (tzero P e).map (·.cells.size), elemsOf st x with
    | some z, some by_, some zl, some xs => if zl = z ∧ 0 < z ∧ 0 < by_ ∧ by_ ≤ 2 ^ 7 ∧ headIs z xs then (match s with
        | .nil => match st.fresh d with
          | true => if xs.length ≤ 2 ^ 39 then some (⟨.own d, some (d, .arr e z xs)⟩, none) else none
          | _ => none
        | .own n => match st.m[n]? with
          | some (some (.arr e' z' rows)) => if e' = e ∧ z' = z ∧ rows.length + xs.length ≤ 2 ^ 39 then some (⟨.own n, some (n, .arr e z (rows ++ xs))⟩, some n) else none
          | _ => none
        | .vc n len => match st.m[n]? with
          | some (some (.arrP e' z' rows)) => if e' = e ∧ z' = z ∧ rows.length = len ∧ xs.length = 1 then some (⟨.vh n (len + 1), some (n, .arrP e z (rows ++ xs))⟩, none) else none
          | _ => none
        | .dfull rows => match st.fresh d with
          | true => if rows.length + xs.length ≤ 2 ^ 39 ∧ 0 < rows.length ∧ 0 < xs.length ∧ headIs z rows then some (⟨.own d, some (d, .arr e z (rows ++ xs))⟩, none) else none
          | _ => none
        | _ => none) else none
    | _, _, _, _ => none
  | _, _ => none else none
def boxTab : List (Option Blk) → Nat → List (Nat × List Nat)
  | [], _ => []
  | some (.box row) :: l, i => (i, AV.refs.AV.refss row) :: boxTab l (i + 1)
  | none :: l, i => boxTab l (i + 1)
  | some (.arr ..) :: l, i => boxTab l (i + 1)
  | some (.mp ..) :: l, i => boxTab l (i + 1)
  | some (.arrP ..) :: l, i => boxTab l (i + 1)
inductive EffA (P : Program) (o : Oper) (st : St) : Eff → Option Nat → Prop where
  | old (e : Eff) (h : EffR P o st e) : EffA P o st e none
  | app (t t' : TypeId) (s x : Operand) (e : Eff) (k : Option Nat) (ho : o.op = .call { callee := .builtin .append, args := #[s, x], argTypes := #[t, t'] })
      (h : appOf P st o.dst t t' (st.ev s) (st.ev x) = some (e, k)) : EffA P o st e k
  | appR (t t' : TypeId) (s x : Operand) (d n : Nat) (el z : Nat) (rows : List (List DV)) (hd : o.dst = some d) (hl : n < st.m.length) (hdl : d < st.t.length) (ho : o.op = .call { callee := .builtin .append, args := #[s, x], argTypes := #[t, t'] })
      (h : appOf P st o.dst t t' (st.ev s) (st.ev x) = some (⟨.own n, some (n, .arr el z rows)⟩, some n)) : EffA P o st ⟨.d (.sl rows), some (n, .arr el z [])⟩ (some n)
  | litD (d : Nat) (e z : Nat) (rows : List (List DV)) (t : TypeId) (len : Nat) (parts : Array (Nat × Operand)) (ho : o.op = .buildSlice t len parts) (hd : o.dst = some d) (hf : st.fresh d = true) (hdl : d < st.t.length)
      (h : opBuildSlice P st t len (parts.toList.map fun p => (p.1, st.ev p.2)) = some (.arr e z rows)) (hr : AV.refsAll (parts.toList.map fun p => st.ev p.2) = []) : EffA P o st ⟨.d (.sl rows), none⟩ none
theorem z94 : ∀ (m : List (Option Blk)) (i j : Nat) (row : List AV), m[j]? = some (some (.box row)) → (i + j, AV.refs.AV.refss row) ∈ boxTab m i
  | [], _, _, _, h => by simp at h
  | none :: l, i, j, row, h => by
    cases j with
    | zero => simp at h
    | succ j => simp only [boxTab]; rw [show i + (j + 1) = i + 1 + j by omega]; exact z94 l (i + 1) j row (by simpa using h)
  | some (.arr _ _ _) :: l, i, j, row, h => by
    cases j with
    | zero => simp at h
    | succ j => simp only [boxTab]; rw [show i + (j + 1) = i + 1 + j by omega]; exact z94 l (i + 1) j row (by simpa using h)
  | some (.arrP _ _ _) :: l, i, j, row, h => by
    cases j with
    | zero => simp at h
    | succ j => simp only [boxTab]; rw [show i + (j + 1) = i + 1 + j by omega]; exact z94 l (i + 1) j row (by simpa using h)
  | some (.mp _ _ _) :: l, i, j, row, h => by
    cases j with
    | zero => simp at h
    | succ j => simp only [boxTab]; rw [show i + (j + 1) = i + 1 + j by omega]; exact z94 l (i + 1) j row (by simpa using h)
  | some (.box r) :: l, i, j, row, h => by
    cases j with
    | zero => simp at h; subst h; simp [boxTab]
    | succ j => simp only [boxTab, List.mem_cons]; rw [show i + (j + 1) = i + 1 + j by omega]; exact .inr (z94 l (i + 1) j row (by simpa using h))
mutual
theorem lose_sub (n : Nat) : ∀ (x : AV), ∀ k ∈ (x.sub n (fun _ => .undef)).refs, k ∈ x.refs
  | .box k o, q, h => by simp only [AV.sub] at h; split at h <;> simp_all [AV.refs]
  | .elem k i o, q, h => by simp only [AV.sub] at h; split at h <;> simp_all [AV.refs]
  | .own k, q, h => by simp only [AV.sub] at h; split at h <;> simp_all [AV.refs]
  | .view k o l, q, h => by simp only [AV.sub] at h; split at h <;> simp_all [AV.refs]
  | .bsl k l, q, h => by simp only [AV.sub] at h; split at h <;> simp_all [AV.refs]
  | .mp k, q, h => by simp only [AV.sub] at h; split at h <;> simp_all [AV.refs]
  | .vh k l, q, h => by simp only [AV.sub] at h; split at h <;> simp_all [AV.refs]
  | .vc k l, q, h => by simp only [AV.sub] at h; split at h <;> simp_all [AV.refs]
  | .agg cs, q, h => by simp only [AV.sub, AV.refs] at h ⊢; exact z143 n cs q h
  | .tup cs, q, h => by simp only [AV.sub, AV.refs] at h ⊢; exact z143 n cs q h
  | .fn f cs, q, h => by simp only [AV.sub, AV.refs] at h ⊢; exact z143 n cs q h
  | .undef, _, h => h
  | .void, _, h => h
  | .d _, _, h => h
  | .nil, _, h => h
  | .dfull _, _, h => h
theorem z143 (n : Nat) : ∀ (l : List AV), ∀ k ∈ AV.refs.AV.refss (AV.sub.AV.subs n (fun _ => .undef) l), k ∈ AV.refs.AV.refss l
  | [], _, h => h
  | x :: xs, q, h => by
    simp only [AV.sub.AV.subs, AV.refs.AV.refss, List.mem_append] at h ⊢
    rcases h with h | h
    · exact .inl (lose_sub n x q h)
    · exact .inr (z143 n xs q h)
end
theorem Blk.lose_same {n : Nat} {b : Blk} (h : ∀ row, b = .box row → n ∉ AV.refs.AV.refss row) : b.sub n (fun _ => .undef) = b := by
  cases b with
  | box row => simp only [Blk.sub]; rw [← AV.subs_eq, z112 n row (h row rfl)]
  | arr => rfl
  | mp => rfl
  | arrP => rfl
theorem killM_at {k : Option Nat} {m : List (Option Blk)} {q : Nat} (h : ∀ n row, k = some n → m[q]? = some (some (.box row)) → n ∉ AV.refs.AV.refss row) : (killM k m)[q]? = m[q]? := by
  cases k with
  | none => rfl
  | some n =>
    simp only [killM, z37]
    cases hm : m[q]? with
    | none => rfl
    | some ob =>
      cases ob with
      | none => rfl
      | some b => simp only [Option.map_some]; rw [Blk.lose_same fun row hb => h n row rfl (by rw [hm, hb])]
theorem subMem_set {n : Nat} {m : List (Option Blk)} {q : Nat} {b : Blk} (h : ∀ row, b = .box row → n ∉ AV.refs.AV.refss row) : subMem n (fun _ => .undef) (m.set q (some b)) = (subMem n (fun _ => .undef) m).set q (some b) := by
  apply List.ext_getElem?
  intro i
  have hl : (subMem n (fun _ => AV.undef) m).length = m.length := by
    have : ∀ m : List (Option Blk), (subMem n (fun _ => AV.undef) m).length = m.length := by
      intro m
      induction m with
      | nil => rfl
      | cons x xs ih => cases x <;> simp [subMem, ih]
    exact this m
  rw [z37, List.getElem?_set, List.getElem?_set, z37, hl]
  by_cases hq : q = i
  · subst hq
    rw [if_pos rfl, if_pos rfl]
    split
    · simp only [Option.map_some]; rw [Blk.lose_same h]
    · rfl
  · rw [if_neg hq, if_neg hq]
section
variable {P : Program} {ops : Array Oper} {o : Oper} {s st : St}
theorem appOf_step {t t' : TypeId} {s x : Operand} {e : Eff} {k : Option Nat} (ho : o.op = .call { callee := .builtin .append, args := #[s, x], argTypes := #[t, t'] })
    (h : appOf P st o.dst t t' (st.ev s) (st.ev x) = some (e, k)) : stepOp P o st = some (st.applyA o.dst e k) := by
  unfold stepOp
  rw [ho]
  simp only [List.map_cons, List.map_nil]
  unfold appOf at h
  unfold opAppend
  split at h
  · rename_i htt
    rw [if_pos htt]
    split at h
    · rename_i d e' hd he
      rw [hd, he]
      simp only
      split at h
      · rename_i z by_ zl xs h1 h2 h3 h4
        rw [h1, h2, h3, h4]
        simp only
        split at h
        · rename_i hc
          rw [if_pos hc]
          split at h
          · rename_i hs
            rw [hs]
            simp only
            split at h
            · rename_i hfr
              rw [hfr]
              simp only
              split at h
              · rename_i hl
                rw [if_pos hl]
                cases h
                rfl
              · cases h
            · cases h
          · rename_i n hs
            rw [hs]
            simp only
            split at h
            · rename_i e2 z2 rows hm
              rw [hm]
              simp only
              split at h
              · rename_i hl
                rw [if_pos hl]
                cases h
                rfl
              · cases h
            · cases h
          · rename_i n len hs
            rw [hs]
            simp only
            split at h
            · rename_i e2 z2 rows hm
              rw [hm]
              simp only
              split at h
              · rename_i hl
                rw [if_pos hl]
                cases h
                rfl
              · cases h
            · cases h
          · rename_i rows hs
            rw [hs]
            simp only
            split at h
            · rename_i hfr
              rw [hfr]
              simp only
              split at h
              · rename_i hl
                rw [if_pos hl]
                cases h
                rfl
              · cases h
            · cases h
          · cases h
        · cases h
      · cases h
    · cases h
  · cases h
theorem EffA.step {e : Eff} {k : Option Nat} (h : EffA P o st e k) : StepR P o st (st.applyA o.dst e k) := by
  cases h with
  | old e h => exact h.step
  | app t t' s x _ _ ho h => exact .inr (.inl ⟨by simp [isCall, ho], appOf_step ho h⟩)
  | appR t t' s x d n el z rows hd hl hdl ho h =>
    refine .inr (.inr ⟨by simp [isCall, ho], _, appOf_step ho h, fun base out μ tmps w μ1 tmps1 w1 _ h1 => ?_⟩)
    have hn1 : (st.applyA o.dst ⟨.own n, some (n, .arr el z rows)⟩ (some n)).m[n]? = some (some (.arr el z rows)) := by
      have : (killM (some n) st.m).length = st.m.length := by
        have : ∀ m : List (Option Blk), (subMem n (fun _ => AV.undef) m).length = m.length := by
          intro m
          induction m with
          | nil => rfl
          | cons x xs ih => cases x <;> simp [subMem, ih]
        exact this _
      simp only [St.applyA, St.apply]
      rw [List.getElem?_set_self (by rw [this]; exact hl)]
    obtain ⟨μ2, h2, _, hless, hgone⟩ := h1.release n
    obtain ⟨μ3, h3, hless3⟩ := h2.rename0 (hgone ⟨_, hn1⟩) (by
      have := (List.getElem?_eq_some_iff.1 hn1).1
      unfold St.release
      rw [hn1]
      have e : ∀ (f : AV → AV) (m : List (Option Blk)), (subMem n f m).length = m.length := by
        intro f m
        induction m with
        | nil => rfl
        | cons x xs ih => cases x <;> simp [subMem, ih]
      simp only [e, List.length_set]
      exact this) el z
    refine ⟨μ3, ?_, fun b hb => hless b (hless3 b hb)⟩
    have key : ({ t := ((st.applyA o.dst ⟨.own n, some (n, .arr el z rows)⟩ (some n)).release n).t, m := ((st.applyA o.dst ⟨.own n, some (n, .arr el z rows)⟩ (some n)).release n).m.set n (some (.arr el z [])) } : St) = st.applyA o.dst ⟨.d (.sl rows), some (n, .arr el z [])⟩ (some n) := by
      have e1 : (st.applyA o.dst ⟨.own n, some (n, .arr el z rows)⟩ (some n)).release n = { t := (st.applyA o.dst ⟨.own n, some (n, .arr el z rows)⟩ (some n)).t.map (AV.sub n (snapLeaf (.arr el z rows))), m := subMem n (snapLeaf (.arr el z rows)) ((st.applyA o.dst ⟨.own n, some (n, .arr el z rows)⟩ (some n)).m.set n none) } := by
        unfold St.release
        rw [hn1]
      rw [e1]
      have ht : (st.applyA o.dst ⟨.own n, some (n, .arr el z rows)⟩ (some n)).t.map (AV.sub n (snapLeaf (.arr el z rows))) = (st.applyA o.dst ⟨.d (.sl rows), some (n, .arr el z [])⟩ (some n)).t := by
        rw [hd]
        simp only [St.applyA, St.apply, St.put, killT, List.map_set, List.map_map]
        have : (AV.sub n (snapLeaf (.arr el z rows)) ∘ AV.sub n fun _ => AV.undef) = AV.sub n fun _ => AV.undef := funext fun x => sub_same n _ _ (lose_gone n x)
        rw [this]
        simp [AV.sub, snapLeaf]
      have hm : (subMem n (snapLeaf (.arr el z rows)) ((st.applyA o.dst ⟨.own n, some (n, .arr el z rows)⟩ (some n)).m.set n none)).set n (some (.arr el z [])) = (st.applyA o.dst ⟨.d (.sl rows), some (n, .arr el z [])⟩ (some n)).m := by
        simp only [St.applyA, St.apply, killM, List.set_set]
        apply List.ext_getElem?
        intro i
        have hlen : ∀ (f : AV → AV) (m : List (Option Blk)), (subMem n f m).length = m.length := by
          intro f m
          induction m with
          | nil => rfl
          | cons x xs ih => cases x <;> simp [subMem, ih]
        rw [List.getElem?_set, List.getElem?_set, hlen, List.length_set]
        by_cases hi : n = i
        · rw [if_pos hi, if_pos hi]
        · rw [if_neg hi, if_neg hi, z37, List.getElem?_set_ne hi, z37]
          cases st.m[i]? with
          | none => rfl
          | some ob =>
            cases ob with
            | none => rfl
            | some b =>
              cases b with
              | box row =>
                simp only [Option.map_some, Blk.sub]
                rw [← AV.subs_eq, ← AV.subs_eq, z108 n _ _ (z113 n row)]
              | arr => rfl
              | mp => rfl
              | arrP => rfl
      rw [ht, hm]
    rw [← key]
    exact h3
  | litD d e z rows t len parts ho hd hf hdl h hr =>
    have hst : stepOp P o st = some (st.addBlk d (.own d) (.arr e z rows)) := by
      have := (EffR.lit (P := P) d e z rows t len parts ho hd hf h hr)
      have hps : (parts.toList.map fun p => (p.1, st.ev p.2)).map (·.2) = parts.toList.map fun p => st.ev p.2 := by simp [Function.comp_def]
      unfold stepOp
      rw [ho]
      simp only [h, hd, Option.getD_some, hf, hps, hr]
      rfl
    refine .inr (.inr ⟨by simp [isCall, ho], _, hst, fun base out μ tmps w μ1 tmps1 w1 h0 h1 => ?_⟩)
    have hfr := z36 hf
    have hl : d < st.m.length := (List.getElem?_eq_some_iff.1 hfr).1
    have hn1 : (st.addBlk d (.own d) (.arr e z rows)).m[d]? = some (some (.arr e z rows)) := by simp only [St.addBlk]; rw [List.getElem?_set_self hl]
    obtain ⟨μ2, h2, _, hless, hgone⟩ := h1.release d
    refine ⟨μ2, ?_, hless⟩
    have hnp := z110 h0.mem hfr
    have norefs : ∀ (i : Nat) x, st.t[i]? = some x → d ∉ x.refs := fun i x hx hc => by
      have hi : i < tmps.size := by rw [h0.size]; exact (List.getElem?_eq_some_iff.1 hx).1
      have := (h0.tmp i x tmps[i] hx (by simp [hi])).placed d hc
      rw [hnp] at this; cases this
    have norefm : ∀ (i : Nat) row, st.m[i]? = some (some (.box row)) → d ∉ AV.refs.AV.refss row := fun i row hrow hc => by
      obtain ⟨b, cs, ty, q1, q2, q3, q4⟩ := h0.mem.box hrow
      have many : ∀ (l : List AV), d ∈ AV.refs.AV.refss l → ∃ (j : Nat) (x : AV), l[j]? = some x ∧ d ∈ x.refs := by
        intro l
        induction l with
        | nil => intro h; simp [AV.refs.AV.refss] at h
        | cons y ys ih =>
          intro h
          simp only [AV.refs.AV.refss, List.mem_append] at h
          rcases h with h | h
          · exact ⟨0, y, rfl, h⟩
          · obtain ⟨j, x, h1, h2⟩ := ih h; exact ⟨j + 1, x, by simpa using h1, h2⟩
      obtain ⟨j, x, hx, hdx⟩ := many row hc
      have hj : j < cs.size := Nat.lt_of_lt_of_le (List.getElem?_eq_some_iff.1 hx).1 q3
      have := (q4 j x cs[j] hx (by simp [hj])).2.placed d hdx
      rw [hnp] at this; cases this
    have key : (st.addBlk d (.own d) (.arr e z rows)).release d = st.applyA o.dst ⟨.d (.sl rows), none⟩ none := by
      have e1 : (st.addBlk d (.own d) (.arr e z rows)).release d = { t := (st.addBlk d (.own d) (.arr e z rows)).t.map (AV.sub d (snapLeaf (.arr e z rows))), m := subMem d (snapLeaf (.arr e z rows)) ((st.addBlk d (.own d) (.arr e z rows)).m.set d none) } := by
        unfold St.release
        rw [hn1]
      rw [e1, hd]
      simp only [St.addBlk, St.applyA, St.apply, St.put, killT, killM, List.map_set, List.set_set]
      have ht : st.t.map (AV.sub d (snapLeaf (.arr e z rows))) = st.t := by
        apply List.ext_getElem?
        intro i
        rw [List.getElem?_map]
        cases hx : st.t[i]? with
        | none => rfl
        | some x => simp only [Option.map_some]; rw [sub_same d _ x (norefs i x hx)]
      have hm : subMem d (snapLeaf (.arr e z rows)) (st.m.set d none) = st.m := by
        apply List.ext_getElem?
        intro i
        rw [z37, List.getElem?_set]
        by_cases hi : d = i
        · subst hi
          rw [if_pos rfl, if_pos hl, hfr]
          rfl
        · rw [if_neg hi]
          cases hx : st.m[i]? with
          | none => rfl
          | some ob =>
            cases ob with
            | none => rfl
            | some b =>
              cases b with
              | box row => simp only [Option.map_some, Blk.sub]; rw [← AV.subs_eq, z108 d _ row (norefm i row hx)]
              | arr => rfl
              | mp => rfl
              | arrP => rfl
      rw [ht, hm]
      simp [AV.sub, snapLeaf]
    rw [← key]
    exact h2
theorem z289 {s s' : St} {dst : Option Tmp} {t t' : TypeId} {a x : AV} (h : Agree (a.refs ++ x.refs ++ dst.toList) s.m s'.m) : appOf P s dst t t' a x = appOf P s' dst t t' a x := by
  unfold appOf
  rw [z127 (st' := s') (h.mono fun n hn => by simp [hn])]
  cases dst with
  | none => rfl
  | some d =>
    have hfr := z100 (s := s) (s' := s') (h d (by simp))
    cases a with
    | own n => simp only [h n (by simp [AV.refs])]
    | vc n len => simp only [h n (by simp [AV.refs])]
    | dfull rows =>
      split
      · split
        · rename_i hd _
          cases hd
          split
          · split
            · rw [hfr]
            · rfl
          · rfl
        · rfl
      · rfl
    | nil =>
      split
      · split
        · rename_i hd _
          cases hd
          split
          · split
            · rw [hfr]
            · rfl
          · rfl
        · rfl
      · rfl
    | _ => rfl
def EffGA (P : Program) (ops : Array Oper) (o : Oper) (s : St) (e : Eff) (k : Option Nat) : Prop := match guardT ops o with
  | none => False
  | some none => EffA P o s e k
  | some (some (t, want)) => (s.ev (.tmp t) = .d (.bool want) ∧ EffA P o s e k) ∨ ((s.ev (.tmp t) = .d (.bool (!want)) ∨ s.ev (.tmp t) = .void) ∧ e = ⟨.void, none⟩ ∧ k = none)
theorem EffGA.step {e : Eff} {k : Option Nat} (h : EffGA P ops o s e k) : StepG P ops o s (s.applyA o.dst e k) := by
  unfold EffGA at h
  unfold StepG
  unfold guardT at h
  cases hg : o.guard with
  | none => rw [hg] at h; exact h.step
  | some gw =>
    obtain ⟨j, want⟩ := gw
    rw [hg] at h
    simp only at h ⊢
    cases ht : (ops[j]?).bind (·.dst) with
    | none => rw [ht] at h; exact h.elim
    | some t =>
      rw [ht] at h
      refine ⟨t, rfl, ?_⟩
      rcases h with ⟨h1, h2⟩ | ⟨h1, rfl, rfl⟩
      · exact .inl ⟨h1, h2.step⟩
      · exact .inr ⟨h1, by cases o.dst <;> rfl⟩
structure RecA where
  i : Nat
  e : Eff
  k : Option Nat
  N : List Nat
  R : List Nat
  u : Bool
def boxE (e : Eff) : List Nat := match e.m with
  | some (_, .box row) => AV.refs.AV.refss row
  | _ => []
structure LocalA (P : Program) (ops : Array Oper) (o : Oper) (s : St) (r : RecA) : Prop where
  eff : EffGA P ops o s r.e r.k
  loc : ∀ s' : St, (∀ t ∈ o.looksAt ops, s.ev (.tmp t) = s'.ev (.tmp t)) → s.t.length = s'.t.length → s.m.length = s'.m.length → Agree r.N s.m s'.m → EffGA P ops o s' r.e r.k
  look : ∀ t ∈ o.looksAt ops, ∀ n ∈ (s.ev (.tmp t)).refs, n ∈ r.R
  whole : r.u = true → ∀ t ∈ o.looksAt ops, (s.ev (.tmp t)).whole = true
  val : ∀ n ∈ r.e.v.refs, n ∈ r.R
inductive ChainA (P : Program) (ops : Array Oper) : List RecA → St → St → Prop where
  | nil (s : St) : ChainA P ops [] s s
  | cons {r : RecA} {rs : List RecA} {s s' : St} {o : Oper} (ho : ops[r.i]? = some o) (hd : dstOk o = true) (h : LocalA P ops o s r) (ht : ChainA P ops rs (s.applyA o.dst r.e r.k) s') : ChainA P ops (r :: rs) s s'
def missB (k : Option Nat) (R : List Nat) : Bool := match k with
  | none => true
  | some n => !R.contains n
abbrev KeyA := Nat × List Nat × List Nat × Option Nat × List Nat × Bool × List Nat
def RecA.key (r : RecA) : KeyA := (r.i, r.e.name, r.N, r.k, r.R, r.u, boxE r.e)
def clearB (Bf : Nat → List Nat) (k : Option Nat) (b : KeyA) : Bool := match k with
  | none => true
  | some n => (Bf n).all fun q => !(b.2.2.1.contains q || b.2.1.contains q)
def indepA (ops : Array Oper) (Bf : Nat → List Nat) (a b : KeyA) : Bool := indepB ops (a.1, a.2.1, a.2.2.1) (b.1, b.2.1, b.2.2.1) &&
  ((a.2.2.2.1.isNone || (b.2.2.2.2.2.1 && missB a.2.2.2.1 b.2.2.2.2.1)) && ((missB b.2.2.2.1 a.2.2.2.2.1 && (a.2.2.2.1.isNone || b.2.2.2.1.isNone)) && (clearB Bf a.2.2.2.1 b && clearB Bf b.2.2.2.1 a)))
theorem z288 {dst : Option Tmp} {e : Eff} {k : Option Nat} {t : Tmp} (h : dst ≠ some t) (hk : ∀ n, k = some n → n ∉ (s.ev (.tmp t)).refs) : (s.applyA dst e k).ev (.tmp t) = s.ev (.tmp t) := by
  unfold St.applyA
  rw [z231 h]
  cases k with
  | none => rfl
  | some n =>
    have := hk n rfl
    simp only [St.ev, killT, List.getD_eq_getElem?_getD, List.getElem?_map] at this ⊢
    cases hx : s.t[t]? with
    | none => rfl
    | some x =>
      rw [hx] at this
      simp only [Option.map_some, Option.getD_some] at this ⊢
      exact lose_same n x this
theorem apply_evW {dst : Option Tmp} {e : Eff} {k : Option Nat} {t : Tmp} (h : dst ≠ some t) (hw : ((s.applyA dst e k).ev (.tmp t)).whole = true) : (s.applyA dst e k).ev (.tmp t) = s.ev (.tmp t) := by
  refine z288 h fun n hk => ?_
  subst hk
  unfold St.applyA at hw
  rw [z231 h] at hw
  simp only [St.ev, killT, List.getD_eq_getElem?_getD, List.getElem?_map] at hw ⊢
  cases hx : s.t[t]? with
  | none => simp [AV.refs]
  | some x =>
    rw [hx] at hw
    simp only [Option.map_some, Option.getD_some] at hw ⊢
    exact lose_whole n x hw
theorem apply_mA {dst : Option Tmp} {e : Eff} {k : Option Nat} {n : Nat} (h : n ∉ e.name) (hk : ∀ q row, k = some q → s.m[n]? = some (some (.box row)) → q ∉ AV.refs.AV.refss row) : (s.applyA dst e k).m[n]? = s.m[n]? := by
  unfold St.applyA
  rw [apply_m h]
  exact killM_at hk
theorem lose_set {n : Nat} {v : AV} (hv : n ∉ v.refs) (t : List AV) (a : Nat) : (t.set a v).map (AV.sub n fun _ => .undef) = (t.map (AV.sub n fun _ => .undef)).set a v := by
  rw [List.map_set, lose_same n v hv]
theorem applyA_comm {d d' : Option Tmp} {e e' : Eff} {k k' : Option Nat} (hd : ∀ t, d = some t → d' ≠ some t) (hn : ∀ n ∈ e.name, n ∉ e'.name) (h1 : ∀ n, k = some n → n ∉ e'.v.refs ∧ n ∉ boxE e') (h2 : ∀ n, k' = some n → n ∉ e.v.refs ∧ n ∉ boxE e) (h3 : k = none ∨ k' = none) :
    (s.applyA d e k).applyA d' e' k' = (s.applyA d' e' k').applyA d e k := by
  have key : ∀ (s : St) (d d' : Option Tmp) (e e' : Eff) (n : Nat), (∀ t, d = some t → d' ≠ some t) → (∀ n ∈ e.name, n ∉ e'.name) → n ∉ e'.v.refs → n ∉ boxE e' → (s.applyA d e (some n)).applyA d' e' none = (s.applyA d' e' none).applyA d e (some n) := by
    intro s d d' e e' n hd hn hv hb
    have e1 : (s.applyA d e (some n)).applyA d' e' none = (({ t := killT (some n) s.t, m := killM (some n) s.m } : St).apply d e).apply d' e' := rfl
    have e2 : (s.applyA d' e' none).applyA d e (some n) = (({ t := killT (some n) s.t, m := killM (some n) s.m } : St).apply d' e').apply d e := by
      have : ({ t := killT (some n) (s.apply d' e').t, m := killM (some n) (s.apply d' e').m } : St) = ({ t := killT (some n) s.t, m := killM (some n) s.m } : St).apply d' e' := by
        have ht : killT (some n) (s.apply d' e').t = (({ t := killT (some n) s.t, m := killM (some n) s.m } : St).apply d' e').t := by
          cases d' with
          | none => rfl
          | some a =>
            simp only [St.apply, St.put, killT]
            rw [lose_set hv]
        have hm : killM (some n) (s.apply d' e').m = (({ t := killT (some n) s.t, m := killM (some n) s.m } : St).apply d' e').m := by
          obtain ⟨v', m'⟩ := e'
          cases m' with
          | none => rfl
          | some nb =>
            obtain ⟨q, b⟩ := nb
            simp only [St.apply, killM]
            exact subMem_set fun row hr => by subst hr; simpa [boxE] using hb
        rw [ht, hm]
      show ({ t := killT (some n) (s.apply d' e').t, m := killM (some n) (s.apply d' e').m } : St).apply d e = _
      rw [this]
    rw [e1, e2]
    exact z206 hd hn
  cases k with
  | none =>
    cases k' with
    | none => exact z206 hd hn
    | some n => exact (key s d' d e' e n (fun t h h' => hd t h' h) (fun a h h' => hn a h' h) (h2 n rfl).1 (h2 n rfl).2).symm
  | some n =>
    cases k' with
    | none => exact key s d d' e e' n hd hn (h1 n rfl).1 (h1 n rfl).2
    | some n' => rcases h3 with h3 | h3 <;> cases h3
def InB (Bf : Nat → List Nat) (Ks : List Nat) (m : List (Option Blk)) : Prop := ∀ n ∈ Ks, ∀ (i : Nat) row, m[i]? = some (some (.box row)) → n ∈ AV.refs.AV.refss row → i ∈ Bf n
def okRec (Bf : Nat → List Nat) (Ks : List Nat) (r : RecA) : Prop := (∀ n, r.k = some n → n ∈ Ks) ∧ ∀ n ∈ boxE r.e, n ∈ Ks → ∀ q ∈ r.e.name, q ∈ Bf n
theorem InB.apply {Bf : Nat → List Nat} {Ks : List Nat} (h : InB Bf Ks s.m) {dst : Option Tmp} {e : Eff} {k : Option Nat} (hb : ∀ n ∈ boxE e, n ∈ Ks → ∀ q ∈ e.name, q ∈ Bf n) : InB Bf Ks (s.applyA dst e k).m := by
  intro n hn i row h1 h2
  obtain ⟨v, m⟩ := e
  have old : (killM k s.m)[i]? = some (some (.box row)) → i ∈ Bf n := by
    intro h3
    cases k with
    | none => exact h n hn i row h3 h2
    | some q =>
      simp only [killM, z37, Option.map_eq_some_iff] at h3
      obtain ⟨ob, hob, b, hb1, hb2⟩ := h3
      cases b with
      | box r0 =>
        simp only [Blk.sub, Blk.box.injEq] at hb2
        subst hb1
        refine h n hn i r0 hob (z143 q r0 n ?_)
        rw [AV.subs_eq, hb2]
        exact h2
      | arr => simp [Blk.sub] at hb2
      | mp => simp [Blk.sub] at hb2
      | arrP => simp [Blk.sub] at hb2
  cases m with
  | none => exact old h1
  | some nb =>
    obtain ⟨q, b⟩ := nb
    simp only [St.applyA, St.apply] at h1
    rw [List.getElem?_set] at h1
    split at h1
    · rename_i hqi
      split at h1
      · cases h1
        exact hb n (by simpa [boxE] using h2) hn i (by simp [Eff.name, hqi])
      · cases h1
    · exact old h1
theorem z130 (s : St) (d : Option Tmp) (e : Eff) (k : Option Nat) : (s.applyA d e k).t.length = s.t.length := by
  cases d <;> cases k <;> simp [St.applyA, St.apply, St.put, killT]
theorem z131 (s : St) (d : Option Tmp) (e : Eff) (k : Option Nat) : (s.applyA d e k).m.length = s.m.length := by
  have h : ∀ (f : AV → AV) (n : Nat) (m : List (Option Blk)), (subMem n f m).length = m.length := by
    intro f n m
    induction m with
    | nil => rfl
    | cons x xs ih => cases x <;> simp [subMem, ih]
  have hk : (killM k s.m).length = s.m.length := by cases k <;> simp [killM, h]
  obtain ⟨v, m⟩ := e
  cases m with
  | none => exact hk
  | some nb => simp [St.applyA, St.apply, hk]
theorem swapA {Bf : Nat → List Nat} {Ks : List Nat} {a b : RecA} {s s' : St} {rs : List RecA} (hi : indepA ops Bf a.key b.key = true) (hF : InB Bf Ks s.m) (ha : okRec Bf Ks a) (hb : okRec Bf Ks b) (h : ChainA P ops (a :: b :: rs) s s') : ChainA P ops (b :: a :: rs) s s' := by
  cases h with
  | cons ho hd h ht =>
  rename_i x
  cases ht with
  | cons ho' hd' h' ht =>
  rename_i y
  simp only [indepA, RecA.key, indepB, ho, ho', Bool.and_eq_true, List.all_eq_true, Bool.not_eq_true', Bool.or_eq_false_iff, List.contains_eq_mem, decide_eq_false_iff_not, Bool.or_eq_true, Option.isNone_iff_eq_none] at hi
  obtain ⟨⟨⟨h1, h2⟩, h3⟩, hk1, ⟨hk2, hk3⟩, hc1, hc2⟩ := hi
  obtain ⟨a1, a2, a3⟩ := Oper.apart_spec h1
  have miss : ∀ {k : Option Nat} {R : List Nat}, missB k R = true → ∀ n, k = some n → n ∉ R := by
    intro k R hm n hk hn
    subst hk
    simp [missB, hn] at hm
  have clear : ∀ {k : Option Nat} {r : RecA}, clearB Bf k (r.i, r.e.name, r.N, r.k, r.R, r.u, boxE r.e) = true → ∀ n, k = some n → ∀ q ∈ Bf n, q ∉ r.N ∧ q ∉ r.e.name := by
    intro k r hc n hk q hq
    subst hk
    simp only [clearB, List.all_eq_true, Bool.not_eq_true', Bool.or_eq_false_iff, List.contains_eq_mem, decide_eq_false_iff_not] at hc
    exact hc q hq
  have noBox : ∀ {k : Option Nat} {r : RecA}, okRec Bf Ks r → (∀ n, k = some n → n ∈ Ks) → clearB Bf k (r.i, r.e.name, r.N, r.k, r.R, r.u, boxE r.e) = true → ∀ n, k = some n → n ∉ boxE r.e := by
    intro k r hr hK hc n hk hn
    have : ∃ q, q ∈ r.e.name := by
      unfold boxE at hn
      split at hn
      · rename_i q row hq; exact ⟨q, by simp [Eff.name, hq]⟩
      · simp at hn
    obtain ⟨q, hq⟩ := this
    exact (clear hc n hk q (hr.2 n hn (hK n hk) q hq)).2 hq
  -- b first
  have hev1 : ∀ t ∈ y.looksAt ops, (s.applyA x.dst a.e a.k).ev (.tmp t) = s.ev (.tmp t) := by
    intro t ht
    rcases hk1 with hk | ⟨hu, _⟩
    · exact z288 (fun hd => a1 t hd ht) (fun n hn => by rw [hk] at hn; cases hn)
    · exact apply_evW (fun hd => a1 t hd ht) (h'.whole hu t ht)
  have hm1 : Agree b.N (s.applyA x.dst a.e a.k).m s.m := fun n hn => apply_mA (fun hc => (h2 n hc).1 hn) fun q row hk hrow hq => (clear hc1 q hk n (hF q (ha.1 q hk) n row hrow hq)).1 hn
  have hbl : LocalA P ops y s b := ⟨h'.loc s hev1 (z130 ..) (z131 ..) hm1, fun s2 he2 htl2 hml2 ha2 => h'.loc s2 (fun t ht => (hev1 t ht).trans (he2 t ht)) ((z130 ..).trans htl2) ((z131 ..).trans hml2) (fun n hn => (hm1 n hn).trans (ha2 n hn)),
    fun t ht n hn => h'.look t ht n (by rw [hev1 t ht]; exact hn), fun hu t ht => by rw [← hev1 t ht]; exact h'.whole hu t ht, h'.val⟩
  -- then a
  have hev2 : ∀ t ∈ x.looksAt ops, s.ev (.tmp t) = (s.applyA y.dst b.e b.k).ev (.tmp t) := fun t ht => (z288 (fun hd => a3 t hd ht) (fun n hn hc => miss hk2 n hn (h.look t ht n hc))).symm
  have hm2 : Agree a.N s.m (s.applyA y.dst b.e b.k).m := fun n hn => (apply_mA (fun hc => (h3 n hc).1 hn) fun q row hk hrow hq => (clear hc2 q hk n (hF q (hb.1 q hk) n row hrow hq)).1 hn).symm
  have hal : LocalA P ops x (s.applyA y.dst b.e b.k) a := ⟨h.loc _ hev2 (z130 ..).symm (z131 ..).symm hm2, fun s2 he2 htl2 hml2 ha2 => h.loc s2 (fun t ht => (hev2 t ht).trans (he2 t ht)) ((z130 ..).symm.trans htl2) ((z131 ..).symm.trans hml2) (fun n hn => (hm2 n hn).trans (ha2 n hn)),
    fun t ht n hn => h.look t ht n (by rw [hev2 t ht]; exact hn), fun hu t ht => by rw [← hev2 t ht]; exact h.whole hu t ht, h.val⟩
  refine .cons ho' hd' hbl (.cons ho hd hal ?_)
  rw [← applyA_comm (fun t hd hd2 => a2 t hd hd2) (fun n hn => (h2 n hn).2) (fun n hn => ⟨fun hc => ?_, noBox hb ha.1 hc1 n hn⟩) (fun n hn => ⟨fun hc => miss hk2 n hn (h.val n hc), noBox ha hb.1 hc2 n hn⟩) hk3]
  · exact ht
  · rcases hk1 with hk | ⟨_, hk⟩
    · rw [hk] at hn; cases hn
    · exact miss hk n hn (h'.val n hc)
theorem bubbleA {Bf : Nat → List Nat} {Ks : List Nat} {r : RecA} {B : List RecA} {s' : St} (hr : okRec Bf Ks r) : ∀ (A : List RecA) (s : St), InB Bf Ks s.m → (∀ a ∈ A, okRec Bf Ks a) → (∀ a ∈ A, indepA ops Bf a.key r.key = true) → ChainA P ops (A ++ r :: B) s s' → ChainA P ops (r :: (A ++ B)) s s'
  | [], _, _, _, _, h => h
  | a :: A, s, hF, hA, hi, h => by
    cases h with
    | cons ho hd h ht =>
    have := bubbleA hr A _ (hF.apply (hA a (by simp)).2) (fun b hb => hA b (by simp [hb])) (fun b hb => hi b (by simp [hb])) ht
    exact swapA (hi a (by simp)) hF (hA a (by simp)) hr (.cons ho hd h this)
def FreeChain (P : Program) (ops : Array Oper) (Bf : Nat → List Nat) (Ks : List Nat) (rs : List RecA) (s s' : St) : Prop := InB Bf Ks s.m ∧ (∀ r ∈ rs, okRec Bf Ks r) ∧ ChainA P ops rs s s'
def pairsA (ops : Array Oper) (Bf : Nat → List Nat) (ms : List Nat) : List KeyA → Bool
  | [] => true
  | a :: l => l.all (fun b => (ms.getD b.1 0).testBit a.1 || indepA ops Bf a b) && pairsA ops Bf ms l
theorem z255 {Bf : Nat → List Nat} (hm : ∀ k i, ((masks ops.toList []).getD k 0).testBit i = true → Anc ops i k) : ∀ {rs : List RecA}, pairsA ops Bf (masks ops.toList []) (rs.map RecA.key) = true → rs.Pairwise (fun a b => Anc ops a.i b.i ∨ indepA ops Bf a.key b.key = true)
  | [], _ => .nil
  | a :: rs, h => by
    simp only [List.map_cons, pairsA, Bool.and_eq_true, List.all_eq_true, List.mem_map, forall_exists_index, and_imp, forall_apply_eq_imp_iff₂, Bool.or_eq_true] at h
    refine .cons (fun b hb => ?_) (z255 hm h.2)
    rcases h.1 b hb with h1 | h1
    · exact .inl (hm _ _ h1)
    · exact .inr h1
def inBoxes (B0 : List (Nat × List Nat)) (acc : List KeyA) (n : Nat) : List Nat := (B0.flatMap fun p => if p.2.contains n then [p.1] else []) ++ acc.flatMap fun b => if b.2.2.2.2.2.2.contains n then b.2.1 else []
def killsOf (rs : List RecA) : List Nat := rs.filterMap (·.k)
theorem inBoxes_spec (rs : List RecA) : InB (inBoxes (boxTab s.m 0) (rs.map RecA.key)) (killsOf rs) s.m ∧ ∀ r ∈ rs, okRec (inBoxes (boxTab s.m 0) (rs.map RecA.key)) (killsOf rs) r := by
  refine ⟨fun n _ i row h1 h2 => ?_, fun r hr => ⟨fun n hk => List.mem_filterMap.2 ⟨r, hr, hk⟩, fun n hn _ q hq => ?_⟩⟩
  · have := z94 s.m 0 i row h1
    rw [Nat.zero_add] at this
    refine List.mem_append_left _ (List.mem_flatMap.2 ⟨_, this, ?_⟩)
    simp [h2]
  · refine List.mem_append_right _ (List.mem_flatMap.2 ⟨r.key, List.mem_map.2 ⟨r, hr, rfl⟩, ?_⟩)
    simp [RecA.key, hn, hq]
end
def lookRefs (s : St) (ops : Array Oper) (o : Oper) : List Nat := (o.looksAt ops).flatMap fun t => (s.ev (.tmp t)).refs
def lookWhole (s : St) (ops : Array Oper) (o : Oper) : Bool := (o.looksAt ops).all fun t => (s.ev (.tmp t)).whole
def relB (rl : List Nat) (dst : Option Tmp) : Bool := match dst with
  | some d => rl.contains d
  | none => false
def relE (rl : List Nat) (dst : Option Tmp) (s : St) (r : Eff × Option Nat) : Option (Eff × Option Nat) := if relB rl dst = true then (match r, dst with
    | (⟨.own n, some (n', .arr el z rows)⟩, some n''), some d => match s.m[n]?, s.t[d]? with
      | some _, some _ => if n = n' ∧ n = n'' then some (⟨.d (.sl rows), some (n, .arr el z [])⟩, some n) else none
      | _, _ => none
    | _, _ => none) else some r
def effA (P : Program) (rl : List Nat) (o : Oper) (s : St) (C : Eff → Option Nat → List Nat → Prop) : Prop := match o.op with
  | .call { callee := .builtin .append, args, argTypes } => match argTypes.toList, args.toList with
    | [t, t'], [a, x] => bindK (appOf P s o.dst t t' (s.ev a) (s.ev x)) fun r => bindK (relE rl o.dst s r) fun r => C r.1 r.2 ((s.ev a).refs ++ (s.ev x).refs ++ o.dst.toList)
    | _, _ => False
  | .buildSlice t len parts => if relB rl o.dst = true then (bindK o.dst fun d => bindK (opBuildSlice P s t len (parts.toList.map fun p => (p.1, s.ev p.2))) fun b =>
      AV.refsAll (parts.toList.map fun p => s.ev p.2) = [] ∧ s.fresh d = true ∧ match s.t[d]?, b with
        | some _, .arr _ _ rows => C ⟨.d (.sl rows), none⟩ none [d]
        | _, _ => False) else effK P o s fun e N => C e none N
  | _ => effK P o s fun e N => C e none N
def guardRunA (P : Program) (rl : List Nat) (t : AV) (want : Bool) (o : Oper) (s : St) (R : Eff → Option Nat → List Nat → Prop) : Prop := ∀ K' : Eff → Option Nat → List Nat → Prop, (∀ e k N, R e k N → K' e k N) → guardK t want (effA P rl o s K') (K' ⟨.void, none⟩ none [])
def runA (P : Program) (rl : List Nat) (ops : Array Oper) (B0 : List (Nat × List Nat)) : List Oper → Nat → List KeyA → St → (St → Prop) → Prop
  | [], _, acc, s, K => pairsA ops (inBoxes B0 acc.reverse) (masks ops.toList []) acc.reverse = true ∧ K s
  | o :: os, i, acc, s, K => dstOk o = true ∧ match guardT ops o with
    | none => False
    | some none => effA P rl o s fun e k N => runA P rl ops B0 os (i + 1) ((i, e.name, N, k, lookRefs s ops o ++ e.v.refs, lookWhole s ops o, boxE e) :: acc) (s.applyA o.dst e k) K
    | some (some (t, want)) => guardRunA P rl (s.ev (.tmp t)) want o s fun e k N => runA P rl ops B0 os (i + 1) ((i, e.name, N, k, lookRefs s ops o ++ e.v.refs, lookWhole s ops o, boxE e) :: acc) (s.applyA o.dst e k) K
section
variable {P : Program} {rd : Option Nat} {n : Nat} {J : Env} {k : Option Nat} {st : St} {ops : Array Oper} {Q : Exit → Option Nat → St → Prop} {o : Oper} {s : St}
theorem effA_spec {rl : List Nat} {C : Eff → Option Nat → List Nat → Prop} (h : effA P rl o s C) : ∃ e k N, (EffA P o s e k ∧ ∀ s' : St, (∀ x ∈ o.op.operands, s.ev x = s'.ev x) → s.t.length = s'.t.length → s.m.length = s'.m.length → Agree N s.m s'.m → EffA P o s' e k) ∧ C e k N := by
  unfold effA at h
  split at h
  · rename_i ho
    split at h
    · rename_i hts hargs
      obtain ⟨⟨e, k⟩, h1, ⟨e', k'⟩, hr, h3⟩ := h
      have e1 := z73 hts
      have e2 := z73 hargs
      subst e1; subst e2
      unfold relE at hr
      split at hr
      · split at hr
        · rename_i n n' el z rows n'' d hrr hdd
          split at hr
          · rename_i y1 y2 hm ht
            split at hr
            · rename_i hnn
              obtain ⟨rfl, rfl⟩ := hnn
              cases hrr
              cases hr
              have hl := (List.getElem?_eq_some_iff.1 hm).1
              have hdl := (List.getElem?_eq_some_iff.1 ht).1
              refine ⟨_, _, _, ⟨.appR _ _ _ _ d n el z rows hdd hl hdl ho h1, fun s' he htl hml hag => .appR _ _ _ _ d n el z rows hdd (by rw [← hml]; exact hl) (by rw [← htl]; exact hdl) ho ?_⟩, h3⟩
              rw [← he _ (by rw [ho]; simp [Op.operands, Call.operands]), ← he _ (by rw [ho]; simp [Op.operands, Call.operands]), ← z289 hag]
              exact h1
            · cases hr
          · cases hr
        · cases hr
      · cases hr
        refine ⟨e, k, _, ⟨.app _ _ _ _ e k ho h1, fun s' he _ _ hag => .app _ _ _ _ e k ho ?_⟩, h3⟩
        rw [← he _ (by rw [ho]; simp [Op.operands, Call.operands]), ← he _ (by rw [ho]; simp [Op.operands, Call.operands]), ← z289 hag]
        exact h1
    · exact h.elim
  · rename_i t len parts ho
    split at h
    · obtain ⟨d, hd, b, hb, hr, hf, h⟩ := h
      split at h
      · rename_i y e z rows ht
        have hdl := (List.getElem?_eq_some_iff.1 ht).1
        refine ⟨_, _, _, ⟨.litD d e z rows t len parts ho hd hf hdl hb hr, fun s' he htl _ hag => ?_⟩, h⟩
        have hev : ∀ p ∈ parts.toList, s.ev p.2 = s'.ev p.2 := fun p hp => he p.2 (by rw [ho]; simp only [Op.operands, List.mem_toArray, List.mem_map]; exact ⟨p, hp, rfl⟩)
        have e1 : (parts.toList.map fun p => (p.1, s'.ev p.2)) = parts.toList.map fun p => (p.1, s.ev p.2) := List.map_congr_left fun p hp => by rw [hev p hp]
        have e2 : (parts.toList.map fun p => s'.ev p.2) = parts.toList.map fun p => s.ev p.2 := List.map_congr_left fun p hp => by rw [hev p hp]
        have hps : (parts.toList.map fun p => (p.1, s.ev p.2)).map (·.2) = parts.toList.map fun p => s.ev p.2 := by simp [Function.comp_def]
        refine .litD d e z rows t len parts ho hd (by rw [← z100 (hag d (by simp))]; exact hf) (by rw [← htl]; exact hdl) ?_ (by rw [e2]; exact hr)
        rw [e1, ← hb]
        unfold opBuildSlice
        rw [hps, hr]
        simp only [z141 (s := s') (s' := s) hr, St.arrs]
      · exact h.elim
    · obtain ⟨e, N, h1, h2⟩ := z182 h
      exact ⟨e, none, N, ⟨.old e h1.1, fun s' he _ _ hag => .old e (h1.2 s' he hag)⟩, h2⟩
  · obtain ⟨e, N, h1, h2⟩ := z182 h
    exact ⟨e, none, N, ⟨.old e h1.1, fun s' he _ _ hag => .old e (h1.2 s' he hag)⟩, h2⟩
theorem z227 {e : Eff} {k : Option Nat} {N : List Nat} {i : Nat} (h1 : EffGA P ops o s e k) (h2 : ∀ s' : St, (∀ t ∈ o.looksAt ops, s.ev (.tmp t) = s'.ev (.tmp t)) → s.t.length = s'.t.length → s.m.length = s'.m.length → Agree N s.m s'.m → EffGA P ops o s' e k) :
    LocalA P ops o s ⟨i, e, k, N, lookRefs s ops o ++ e.v.refs, lookWhole s ops o⟩ :=
  ⟨h1, h2, fun t ht n hn => List.mem_append_left _ (by simp only [lookRefs, List.mem_flatMap]; exact ⟨t, ht, hn⟩), fun hu t ht => by simp only [lookWhole, List.all_eq_true] at hu; exact hu t ht, fun n hn => List.mem_append_right _ hn⟩
theorem z195 {rl : List Nat} {B0 : List (Nat × List Nat)} : ∀ (os : List Oper) (i : Nat) (acc : List KeyA) (s : St) (K : St → Prop), (∀ j o, os[j]? = some o → ops[i + j]? = some o) → runA P rl ops B0 os i acc s K →
    ∃ rs s', ChainA P ops rs s s' ∧ rs.map (·.i) = List.range' i os.length ∧ pairsA ops (inBoxes B0 (acc.reverse ++ rs.map RecA.key)) (masks ops.toList []) (acc.reverse ++ rs.map RecA.key) = true ∧ K s'
  | [], i, acc, s, K, _, h => ⟨[], s, .nil s, rfl, by simpa using h.1, h.2⟩
  | o :: os, i, acc, s, K, hos, h => by
    obtain ⟨hd, h⟩ := h
    have hos' : ∀ j o', os[j]? = some o' → ops[i + 1 + j]? = some o' := fun j o' hj => by have := hos (j + 1) o' (by simpa using hj); rwa [show i + 1 + j = i + (j + 1) by omega]
    have ho : ops[i]? = some o := by simpa using hos 0 o (by simp)
    have fin : ∀ (e : Eff) (k : Option Nat) (N : List Nat), LocalA P ops o s ⟨i, e, k, N, lookRefs s ops o ++ e.v.refs, lookWhole s ops o⟩ →
        (∃ rs s', ChainA P ops rs (s.applyA o.dst e k) s' ∧ rs.map (·.i) = List.range' (i + 1) os.length ∧ pairsA ops (inBoxes B0 (((i, e.name, N, k, lookRefs s ops o ++ e.v.refs, lookWhole s ops o, boxE e) :: acc).reverse ++ rs.map RecA.key)) (masks ops.toList []) (((i, e.name, N, k, lookRefs s ops o ++ e.v.refs, lookWhole s ops o, boxE e) :: acc).reverse ++ rs.map RecA.key) = true ∧ K s') →
        ∃ rs s', ChainA P ops rs s s' ∧ rs.map (·.i) = List.range' i (o :: os).length ∧ pairsA ops (inBoxes B0 (acc.reverse ++ rs.map RecA.key)) (masks ops.toList []) (acc.reverse ++ rs.map RecA.key) = true ∧ K s' := by
      rintro e k N hl ⟨rs, s', h1, h2, h3, h4⟩
      refine ⟨⟨i, e, k, N, lookRefs s ops o ++ e.v.refs, lookWhole s ops o⟩ :: rs, s', .cons ho hd hl h1, by simp [h2, List.range'_succ], ?_, h4⟩
      simpa [RecA.key] using h3
    cases hg : guardT ops o with
    | none => rw [hg] at h; exact h.elim
    | some g =>
      rw [hg] at h
      cases g with
      | none =>
        obtain ⟨e, k, N, ⟨h1, h1'⟩, h2⟩ := effA_spec h
        refine fin e k N (z227 (by simp only [EffGA, hg]; exact h1) fun s' he htl hml ha => ?_) (z195 os (i + 1) _ _ K hos' h2)
        simp only [EffGA, hg]
        exact h1' s' (z229 he) htl hml ha
      | some tw =>
        obtain ⟨t, want⟩ := tw
        obtain ⟨j, hj, ht⟩ := z166 hg
        have hmem : t ∈ o.looksAt ops := List.mem_append_right _ (by rw [hj]; simp [ht])
        have h := h _ fun e k N hs => z195 os (i + 1) _ _ K hos' hs
        unfold guardK at h
        split at h
        · rename_i b hev
          by_cases hb : b = want
          · obtain ⟨e, k, N, ⟨h1, h1'⟩, h2⟩ := effA_spec (h.1 hb)
            refine fin e k N (z227 (by simp only [EffGA, hg]; exact .inl ⟨by rw [hev, hb], h1⟩) fun s' he htl hml ha => ?_) h2
            simp only [EffGA, hg]
            exact .inl ⟨by rw [← he t hmem, hev, hb], h1' s' (z229 he) htl hml ha⟩
          · have hb' : b = !want := by cases b <;> cases want <;> simp_all
            refine fin _ _ _ (z227 (by unfold EffGA; rw [hg]; exact .inr ⟨.inl (by rw [hev, hb']), rfl, rfl⟩) fun s' he htl hml ha => ?_) (h.2 hb')
            unfold EffGA; rw [hg]
            exact .inr ⟨.inl (by rw [← he t hmem, hev, hb']), rfl, rfl⟩
        · rename_i hev
          refine fin _ _ _ (z227 (by unfold EffGA; rw [hg]; exact .inr ⟨.inr hev, rfl, rfl⟩) fun s' he htl hml ha => ?_) h
          unfold EffGA; rw [hg]
          exact .inr ⟨.inr (by rw [← he t hmem, hev]), rfl, rfl⟩
        · exact h.elim
theorem walk_drawnA {rl : List Nat} {id : Nat} (hfol : P.follows .mixedOrders = true) (hback : backB ops = true) (h : runA P rl ops (boxTab st.m 0) ops.toList 0 [] st (Q .normal k)) : Walk P rd n J (.region id ops true) k st Q := fun B base out μ tmps w ds _ hst hJ hM => by
  obtain ⟨rs, s', h1, h2, h3, h4⟩ := z195 _ _ _ _ _ (fun j o hj => by simpa using hj) h
  simp only [List.reverse_nil, List.nil_append] at h3
  have hfree := inBoxes_spec (s := st) rs
  refine z142 (ix := RecA.i) (I := fun a b => indepA ops (inBoxes (boxTab st.m 0) (rs.map RecA.key)) a.key b.key = true) (C := FreeChain P ops (inBoxes (boxTab st.m 0) (rs.map RecA.key)) (killsOf rs)) (fun s s' h => by obtain ⟨_, _, h⟩ := h; cases h; rfl) ?_ ?_ hfol hback (by rw [h2, List.range_eq_range']; simp)
    (z255 (fun k i => z200 ops.toList [] (fun k i hk => by simp at hk) (fun k o hk => by simpa using hk) k i) h3) ⟨hfree.1, hfree.2, h1⟩ hst fun tmps' μ' w' h5 hk hS => .step hJ h5 hk hS hM h4
  · rintro r rs' s s' ⟨hF, hR, hc⟩
    cases hc with
    | cons ho hd hl ht => exact ⟨_, _, ho, hd, hl.eff.step, hF.apply (hR r (by simp)).2, fun q hq => hR q (by simp [hq]), ht⟩
  · rintro r B s s' A hA ⟨hF, hR, hc⟩
    refine ⟨hF, fun q hq => hR q ?_, bubbleA (hR r (by simp)) A s hF (fun a ha => hR a (by simp [ha])) hA hc⟩
    simp only [List.mem_cons, List.mem_append] at hq ⊢
    rcases hq with rfl | hq | hq
    · exact .inr (.inl rfl)
    · exact .inl hq
    · exact .inr (.inr hq)
theorem z134 {id : Nat} {cs : List Code} (rl : List Nat) (hfol : P.follows .mixedOrders = true) (hback : backB ops = true) (h : ∀ K : St → Prop, (∀ s, WalkL P rd n J cs k s Q → K s) → runA P rl ops (boxTab st.m 0) ops.toList 0 [] st K) : WalkL P rd n J (.region id ops true :: cs) k st Q :=
  walk_drawnA hfol hback (h _ fun _ h => h)
theorem z135 {id : Nat} {cs : List Code} (hfol : P.follows .mixedOrders = true) (hback : backB ops = true) (h : ∀ K : St → Prop, (∀ s, WalkL P rd n J cs k s Q → K s) → runA P [] ops (boxTab st.m 0) ops.toList 0 [] st K) : WalkL P rd n J (.region id ops true :: cs) k st Q :=
  z134 [] hfol hback h
end
def oldA (C : Eff → Option Nat → List Nat → Prop) (e : Eff) (N : List Nat) : Prop := C e none N
theorem effA_eq (P : Program) (rl : List Nat) (o : Oper) (s : St) (C : Eff → Option Nat → List Nat → Prop) : effA P rl o s C = (match o.op with
  | .call { callee := .builtin .append, args, argTypes } => match argTypes.toList, args.toList with
    | [t, t'], [a, x] => bindK (appOf P s o.dst t t' (s.ev a) (s.ev x)) fun r => bindK (relE rl o.dst s r) fun r => C r.1 r.2 ((s.ev a).refs ++ (s.ev x).refs ++ o.dst.toList)
    | _, _ => False
  | .buildSlice t len parts => if relB rl o.dst = true then (bindK o.dst fun d => bindK (opBuildSlice P s t len (parts.toList.map fun p => (p.1, s.ev p.2))) fun b =>
      AV.refsAll (parts.toList.map fun p => s.ev p.2) = [] ∧ s.fresh d = true ∧ match s.t[d]?, b with
        | some _, .arr _ _ rows => C ⟨.d (.sl rows), none⟩ none [d]
        | _, _ => False) else effK P o s (oldA C)
  | _ => effK P o s (oldA C)) := rfl
theorem effA_mono {P : Program} {rl : List Nat} {o : Oper} {s : St} {C C' : Eff → Option Nat → List Nat → Prop} (h : effA P rl o s C) (hC : ∀ e k N, C e k N → C' e k N) : effA P rl o s C' := by
  unfold effA at h ⊢
  split
  · rename_i ho
    simp only [ho] at h
    split at h
    · obtain ⟨r, h1, r', h2, h3⟩ := h
      exact ⟨r, h1, r', h2, hC _ _ _ h3⟩
    · exact h.elim
  · rename_i ho
    simp only [ho] at h
    split at h
    · rename_i hr
      rw [if_pos hr]
      obtain ⟨d, hd, b, hb, h1, h2, h3⟩ := h
      refine ⟨d, hd, b, hb, h1, h2, ?_⟩
      split at h3
      · exact hC _ _ _ h3
      · exact h3.elim
    · rename_i hr
      rw [if_neg hr]
      exact z183 h fun e N hc => hC _ _ _ hc
  · rename_i hno hno2
    split at h
    · rename_i ho; exact absurd ho (hno _ _)
    · rename_i ho; exact absurd ho (hno2 _ _ _)
    · exact z183 h fun e N hc => hC _ _ _ hc
theorem guardRunA_tt (P : Program) (rl : List Nat) (o : Oper) (s : St) (R : Eff → Option Nat → List Nat → Prop) : guardRunA P rl (.d (.bool true)) true o s R = effA P rl o s R := by
  apply propext
  exact ⟨fun h => (h R (fun _ _ _ h => h)).1 rfl, fun h K' hK => ⟨fun _ => effA_mono h hK, fun e => (by cases e)⟩⟩
theorem guardRunA_ff (P : Program) (rl : List Nat) (o : Oper) (s : St) (R : Eff → Option Nat → List Nat → Prop) : guardRunA P rl (.d (.bool false)) false o s R = effA P rl o s R := by
  apply propext
  exact ⟨fun h => (h R (fun _ _ _ h => h)).1 rfl, fun h K' hK => ⟨fun _ => effA_mono h hK, fun e => (by cases e)⟩⟩
theorem guardRunA_tf (P : Program) (rl : List Nat) (o : Oper) (s : St) (R : Eff → Option Nat → List Nat → Prop) : guardRunA P rl (.d (.bool true)) false o s R = R ⟨.void, none⟩ none [] := by
  apply propext
  exact ⟨fun h => (h R (fun _ _ _ h => h)).2 rfl, fun h K' hK => ⟨fun e => (by cases e), fun _ => hK _ _ _ h⟩⟩
theorem guardRunA_ft (P : Program) (rl : List Nat) (o : Oper) (s : St) (R : Eff → Option Nat → List Nat → Prop) : guardRunA P rl (.d (.bool false)) true o s R = R ⟨.void, none⟩ none [] := by
  apply propext
  exact ⟨fun h => (h R (fun _ _ _ h => h)).2 rfl, fun h K' hK => ⟨fun e => (by cases e), fun _ => hK _ _ _ h⟩⟩
theorem guardRunA_void (P : Program) (rl : List Nat) (want : Bool) (o : Oper) (s : St) (R : Eff → Option Nat → List Nat → Prop) : guardRunA P rl .void want o s R = R ⟨.void, none⟩ none [] := by
  apply propext
  exact ⟨fun h => h R (fun _ _ _ h => h), fun h K' hK => hK _ _ _ h⟩
def contA (P : Program) (rl : List Nat) (ops : Array Oper) (B0 : List (Nat × List Nat)) (os : List Oper) (i : Nat) (acc : List KeyA) (s : St) (o : Oper) (K : St → Prop) (e : Eff) (k : Option Nat) (N : List Nat) : Prop :=
  runA P rl ops B0 os (i + 1) ((i, e.name, N, k, lookRefs s ops o ++ e.v.refs, lookWhole s ops o, boxE e) :: acc) (s.applyA o.dst e k) K
theorem runA_nil (P : Program) (rl : List Nat) (ops : Array Oper) (B0 : List (Nat × List Nat)) (i : Nat) (acc : List KeyA) (s : St) (K : St → Prop) : runA P rl ops B0 [] i acc s K = (pairsA ops (inBoxes B0 acc.reverse) (masks ops.toList []) acc.reverse = true ∧ K s) := rfl
theorem runA_cons (P : Program) (rl : List Nat) (ops : Array Oper) (B0 : List (Nat × List Nat)) (o : Oper) (os : List Oper) (i : Nat) (acc : List KeyA) (x : AV) (t : List AV) (m : List (Option Blk)) (K : St → Prop) : runA P rl ops B0 (o :: os) i acc ⟨x :: t, m⟩ K = (dstOk o = true ∧ match guardT ops o with
    | none => False
    | some none => effA P rl o ⟨x :: t, m⟩ (contA P rl ops B0 os i acc ⟨x :: t, m⟩ o K)
    | some (some (t', want)) => guardRunA P rl ((⟨x :: t, m⟩ : St).ev (.tmp t')) want o ⟨x :: t, m⟩ (contA P rl ops B0 os i acc ⟨x :: t, m⟩ o K)) := rfl
theorem killT_none (t : List AV) : killT none t = t := rfl
theorem killT_some (n : Nat) (t : List AV) : killT (some n) t = t.map (AV.sub n fun _ => .undef) := rfl
theorem killM_none (m : List (Option Blk)) : killM none m = m := rfl
theorem killM_some (n : Nat) (m : List (Option Blk)) : killM (some n) m = subMem n (fun _ => .undef) m := rfl
theorem relE_nil (dst : Option Tmp) (s : St) (r : Eff × Option Nat) : relE [] dst s r = some r := by cases dst <;> rfl
theorem relB_nil (dst : Option Tmp) : relB [] dst = false := by cases dst <;> rfl
theorem relB_some (rl : List Nat) (d : Tmp) : relB rl (some d) = rl.contains d := rfl
attribute [go_sem] relE_nil relB_nil relB_some relE List.contains_nil
attribute [go_sem] List.contains_cons runA_nil runA_cons contA oldA effA_eq appOf boxTab killM_none killM_some St.applyA killT_none killT_some guardRunA_tt guardRunA_ff guardRunA_tf guardRunA_ft guardRunA_void
theorem CallR.made {P : Program} {st : St} {dst : Option Tmp} {g : FuncId} {xs : List AV} {ds : List DV} {r : AV} {m1 : List Blk} (news : List Nat) (hf : FnG P g [] [] (ds.map AV.d) r m1) (hd : reifyAll st xs = some ds) (hn : news.Nodup) (hl : news.length = m1.length)
    (hnew : news.all st.fresh = true) (hx : AV.refsAll xs = []) : CallR P st dst g xs (({ st with m := putM news (m1.map (Blk.mapN fun i => news[i]?)) st.m } : St).put dst (r.mapN fun i => news[i]?)) := by
  obtain ⟨h1, h2⟩ := z29 hd
  have := CallR.gen (dst := dst) (st := st) (xs := xs) [] [] (ds.map AV.d) r m1 [] news [] [] hf (by simpa using hn) rfl (by simpa using hl) (by intro i b h; simp at h) (fun n hn => z36 (List.all_eq_true.1 hnew n hn)) (by simpa using h1) (fun i x y hi hy => by
    simp only [List.getElem?_map, Option.map_eq_some_iff] at hy
    obtain ⟨d, hy, rfl⟩ := hy
    have h3 := h2 i d hy
    simp only [List.getElem?_map, Option.map_eq_some_iff] at h3
    obtain ⟨x', hx', hr⟩ := h3
    rw [hi] at hx'
    cases hx'
    refine .inl ⟨d, rfl, hr, fun n hn => ?_⟩
    have := refsAll_nil hx (List.mem_of_getElem? hi)
    rw [this] at hn
    cases hn) (by simp) (by intro n hn; simp at hn) (by intro i n h; simp at h) (.inl rfl)
  exact this
theorem weak_release (l : List Nat) (st : St) : Weak st (releaseAll l st) := by
  intro P base out μ tmps w h
  obtain ⟨μ', h1, _, _, h2, _⟩ := z59 l st μ h
  exact ⟨μ', h1, h2⟩
theorem z31 {P : Program} {rd : Option Nat} {n : Nat} {J : Env} {c : Code} {cs : List Code} {k : Option Nat} {st : St} {Q : Exit → Option Nat → St → Prop} (l : List Nat) (h : WalkL P rd n J (c :: cs) k (releaseAll l st) Q) : WalkL P rd n J (c :: cs) k st Q :=
  z186 (weak_release l st) h
theorem CallR.inPlace {P : Program} {st : St} {dst : Option Tmp} {g : FuncId} {xs : List AV} (n : Nat) {b0 b0' b1 : Blk} {args : List AV} {r : AV} (hf : FnG P g [b0] [0] args r [b1]) (hn : st.m[n]? = some (some b0')) (hb : b0 = b0'.mapN (inv [n])) (hla : xs.length = args.length)
    (ha : ∀ (i : Nat) x y, xs[i]? = some x → args[i]? = some y → argG st [n] [] x y) : CallR P st dst g xs (({ st with m := st.m.set n (some (b1.mapN fun i => [n][i]?)) } : St).put dst (r.mapN fun i => [n][i]?)) := by
  have := CallR.gen (dst := dst) (st := st) [b0] [0] args r [b1] [n] [] [] [] hf (by simp) rfl rfl (fun i b hi => by
    cases i with
    | zero => cases hi; exact ⟨n, b0', rfl, hn, hb⟩
    | succ i => simp at hi) (by simp) hla ha (by simp) (by intro n hn; simp at hn) (fun i k hi _ => by
    cases i with
    | zero => simp
    | succ i => simp at hi) (.inl rfl)
  exact this
end Go.Ab
/- Arrays of which the room is asked: full, or with room behind; and arrays with room that settle. -/
namespace Go.Ab
open Go.RowKit
def roomed (len : Nat) : AV → AV
  | .own n => .vc n len
  | .view n off k => .view n off k
  | .elem n i o => .elem n i o
  | _ => .undef
def fulled (e : TypeId) (z : Nat) (rows : List (List DV)) : AV → AV
  | .own _ => .dfull rows
  | y => snapLeaf (.arr e z rows) y
def settled (len : Nat) : AV → AV
  | .vh n k => if k = len then .own n else .undef
  | .view n off k => if off + k ≤ len then .view n off k else .undef
  | .elem n i o => .elem n i o
  | _ => .undef
def St.roomed (n : Nat) (st : St) : St := match (st.m[n]? : Option (Option Blk)) with
  | some (some (.arr e z rows)) => { t := st.t.map (AV.sub n (Ab.roomed rows.length)), m := (subMem n (Ab.roomed rows.length) st.m).set n (some (.arrP e z rows)) }
  | _ => st
def St.fulled (n : Nat) (st : St) : St := match (st.m[n]? : Option (Option Blk)) with
  | some (some (.arr e z rows)) => { t := st.t.map (AV.sub n (Ab.fulled e z rows)), m := subMem n (Ab.fulled e z rows) (st.m.set n none) }
  | _ => st
def St.settle (n : Nat) (st : St) : St := match (st.m[n]? : Option (Option Blk)) with
  | some (some (.arrP e z rows)) => { t := st.t.map (AV.sub n (settled rows.length)), m := (subMem n (settled rows.length) st.m).set n (some (.arr e z rows)) }
  | _ => st
section
variable {P : Program} {base : Own} {out : Own} {st st' : St} {μ : Pl} {tmps : Array Value} {w w' : World}
end
attribute [go_sem] St.roomed St.fulled St.settle roomed fulled settled opSlice3
end Go.Ab
/- The program's type table, as the engine asks for it. -/
namespace Go.Ab
open Go.RowKit Go.Proofs
theorem tab_tsz_0 : tsz Tryz.prog 0 = (some 1) := by kernel_rfl
theorem tab_tbytes_0 : tbytes Tryz.prog 0 = (some 0) := by kernel_rfl
theorem tab_tagg_0 : tagg Tryz.prog 0 = (some false) := by kernel_rfl
theorem tab_tsz_1 : tsz Tryz.prog 1 = (some 1) := by kernel_rfl
theorem tab_tbytes_1 : tbytes Tryz.prog 1 = (some 8) := by kernel_rfl
theorem tab_tagg_1 : tagg Tryz.prog 1 = (some false) := by kernel_rfl
theorem tab_tsz_2 : tsz Tryz.prog 2 = (some 1) := by kernel_rfl
theorem tab_tbytes_2 : tbytes Tryz.prog 2 = (some 8) := by kernel_rfl
theorem tab_tagg_2 : tagg Tryz.prog 2 = (some false) := by kernel_rfl
theorem tab_tint_2 : tint Tryz.prog 2 = (some IntKind.i64) := by kernel_rfl
theorem tab_tsz_3 : tsz Tryz.prog 3 = (some 1) := by kernel_rfl
theorem tab_tbytes_3 : tbytes Tryz.prog 3 = (some 8) := by kernel_rfl
theorem tab_tagg_3 : tagg Tryz.prog 3 = (some false) := by kernel_rfl
theorem tab_tint_3 : tint Tryz.prog 3 = (some IntKind.i64) := by kernel_rfl
theorem tab_tsz_4 : tsz Tryz.prog 4 = (some 1) := by kernel_rfl
theorem tab_tbytes_4 : tbytes Tryz.prog 4 = (some 1) := by kernel_rfl
theorem tab_tagg_4 : tagg Tryz.prog 4 = (some false) := by kernel_rfl
theorem tab_tsz_17 : tsz Tryz.prog 17 = (some 1) := by kernel_rfl
theorem tab_tbytes_17 : tbytes Tryz.prog 17 = (some 8) := by kernel_rfl
theorem tab_tagg_17 : tagg Tryz.prog 17 = (some false) := by kernel_rfl
theorem tab_tsz_22 : tsz Tryz.prog 22 = (some 1) := by kernel_rfl
theorem tab_tbytes_22 : tbytes Tryz.prog 22 = (some 24) := by kernel_rfl
theorem tab_tagg_22 : tagg Tryz.prog 22 = (some false) := by kernel_rfl
theorem tab_tslice_22 : tslice Tryz.prog 22 = (some 3) := by kernel_rfl
theorem tab_tsz_23 : tsz Tryz.prog 23 = (some 1) := by kernel_rfl
theorem tab_tbytes_23 : tbytes Tryz.prog 23 = (some 24) := by kernel_rfl
theorem tab_tagg_23 : tagg Tryz.prog 23 = (some false) := by kernel_rfl
theorem tab_tslice_23 : tslice Tryz.prog 23 = (some 110) := by kernel_rfl
theorem tab_tsz_24 : tsz Tryz.prog 24 = (some 1) := by kernel_rfl
theorem tab_tbytes_24 : tbytes Tryz.prog 24 = (some 24) := by kernel_rfl
theorem tab_tagg_24 : tagg Tryz.prog 24 = (some false) := by kernel_rfl
theorem tab_tslice_24 : tslice Tryz.prog 24 = (some 69) := by kernel_rfl
theorem tab_tsz_25 : tsz Tryz.prog 25 = (some 1) := by kernel_rfl
theorem tab_tbytes_25 : tbytes Tryz.prog 25 = (some 24) := by kernel_rfl
theorem tab_tagg_25 : tagg Tryz.prog 25 = (some false) := by kernel_rfl
theorem tab_tslice_25 : tslice Tryz.prog 25 = (some 67) := by kernel_rfl
theorem tab_tsz_27 : tsz Tryz.prog 27 = (some 4) := by kernel_rfl
theorem tab_tbytes_27 : tbytes Tryz.prog 27 = (some 96) := by kernel_rfl
theorem tab_tagg_27 : tagg Tryz.prog 27 = (some true) := by kernel_rfl
theorem tab_tfields_27 : tfields Tryz.prog 27 = (some [(0, (1, false)), (1, (1, false)), (2, (1, false)), (3, (1, false))]) := by kernel_rfl
theorem tab_tsz_28 : tsz Tryz.prog 28 = (some 1) := by kernel_rfl
theorem tab_tbytes_28 : tbytes Tryz.prog 28 = (some 24) := by kernel_rfl
theorem tab_tagg_28 : tagg Tryz.prog 28 = (some false) := by kernel_rfl
theorem tab_tslice_28 : tslice Tryz.prog 28 = (some 22) := by kernel_rfl
theorem tab_tsz_29 : tsz Tryz.prog 29 = (some 1) := by kernel_rfl
theorem tab_tbytes_29 : tbytes Tryz.prog 29 = (some 24) := by kernel_rfl
theorem tab_tagg_29 : tagg Tryz.prog 29 = (some false) := by kernel_rfl
theorem tab_tslice_29 : tslice Tryz.prog 29 = (some 72) := by kernel_rfl
theorem tab_tsz_31 : tsz Tryz.prog 31 = (some 1) := by kernel_rfl
theorem tab_tbytes_31 : tbytes Tryz.prog 31 = (some 24) := by kernel_rfl
theorem tab_tagg_31 : tagg Tryz.prog 31 = (some true) := by kernel_rfl
theorem tab_tfields_31 : tfields Tryz.prog 31 = (some [(0, (1, false))]) := by kernel_rfl
theorem tab_tsz_32 : tsz Tryz.prog 32 = (some 1) := by kernel_rfl
theorem tab_tbytes_32 : tbytes Tryz.prog 32 = (some 24) := by kernel_rfl
theorem tab_tagg_32 : tagg Tryz.prog 32 = (some false) := by kernel_rfl
theorem tab_tslice_32 : tslice Tryz.prog 32 = (some 199) := by kernel_rfl
theorem tab_tsz_34 : tsz Tryz.prog 34 = (some 2) := by kernel_rfl
theorem tab_tbytes_34 : tbytes Tryz.prog 34 = (some 16) := by kernel_rfl
theorem tab_tagg_34 : tagg Tryz.prog 34 = (some true) := by kernel_rfl
theorem tab_tfields_34 : tfields Tryz.prog 34 = (some [(0, (1, false)), (1, (1, false))]) := by kernel_rfl
theorem tab_teq_34 : teq Tryz.prog 34 = (some [(0, false), (1, false)]) := by kernel_rfl
theorem tab_tsz_36 : tsz Tryz.prog 36 = (some 5) := by kernel_rfl
theorem tab_tbytes_36 : tbytes Tryz.prog 36 = (some 40) := by kernel_rfl
theorem tab_tagg_36 : tagg Tryz.prog 36 = (some true) := by kernel_rfl
theorem tab_tfields_36 : tfields Tryz.prog 36 = (some [(0, (1, false)), (1, (1, false)), (2, (1, false)), (3, (2, true))]) := by kernel_rfl
theorem tab_teq_36 : teq Tryz.prog 36 = (some [(0, false), (1, false), (2, false), (3, false), (4, false)]) := by kernel_rfl
theorem tab_tsz_37 : tsz Tryz.prog 37 = (some 1) := by kernel_rfl
theorem tab_tbytes_37 : tbytes Tryz.prog 37 = (some 24) := by kernel_rfl
theorem tab_tagg_37 : tagg Tryz.prog 37 = (some false) := by kernel_rfl
theorem tab_tslice_37 : tslice Tryz.prog 37 = (some 95) := by kernel_rfl
theorem tab_tsz_39 : tsz Tryz.prog 39 = (some 8) := by kernel_rfl
theorem tab_tbytes_39 : tbytes Tryz.prog 39 = (some 112) := by kernel_rfl
theorem tab_tagg_39 : tagg Tryz.prog 39 = (some true) := by kernel_rfl
theorem tab_tfields_39 : tfields Tryz.prog 39 = (some [(0, (1, true)), (1, (1, false)), (2, (5, true)), (7, (1, false))]) := by kernel_rfl
theorem tab_tsz_41 : tsz Tryz.prog 41 = (some 10) := by kernel_rfl
theorem tab_tbytes_41 : tbytes Tryz.prog 41 = (some 128) := by kernel_rfl
theorem tab_tagg_41 : tagg Tryz.prog 41 = (some true) := by kernel_rfl
theorem z302 : tfields Tryz.prog 41 = (some [(0, (8, true)), (8, (1, false)), (9, (1, false))]) := by kernel_rfl
theorem tab_tsz_46 : tsz Tryz.prog 46 = (some 1) := by kernel_rfl
theorem tab_tbytes_46 : tbytes Tryz.prog 46 = (some 8) := by kernel_rfl
theorem tab_tagg_46 : tagg Tryz.prog 46 = (some false) := by kernel_rfl
theorem tab_tint_46 : tint Tryz.prog 46 = (some IntKind.i64) := by kernel_rfl
theorem tab_tsz_67 : tsz Tryz.prog 67 = (some 1) := by kernel_rfl
theorem tab_tbytes_67 : tbytes Tryz.prog 67 = (some 24) := by kernel_rfl
theorem tab_tagg_67 : tagg Tryz.prog 67 = (some false) := by kernel_rfl
theorem tab_tslice_67 : tslice Tryz.prog 67 = (some 87) := by kernel_rfl
theorem tab_tsz_69 : tsz Tryz.prog 69 = (some 1) := by kernel_rfl
theorem tab_tbytes_69 : tbytes Tryz.prog 69 = (some 24) := by kernel_rfl
theorem tab_tagg_69 : tagg Tryz.prog 69 = (some true) := by kernel_rfl
theorem z301 : tfields Tryz.prog 69 = (some [(0, (1, false))]) := by kernel_rfl
theorem tab_tsz_70 : tsz Tryz.prog 70 = (some 1) := by kernel_rfl
theorem tab_tbytes_70 : tbytes Tryz.prog 70 = (some 24) := by kernel_rfl
theorem tab_tagg_70 : tagg Tryz.prog 70 = (some false) := by kernel_rfl
theorem tab_tslice_70 : tslice Tryz.prog 70 = (some 116) := by kernel_rfl
theorem tab_tsz_72 : tsz Tryz.prog 72 = (some 1) := by kernel_rfl
theorem tab_tbytes_72 : tbytes Tryz.prog 72 = (some 24) := by kernel_rfl
theorem tab_tagg_72 : tagg Tryz.prog 72 = (some true) := by kernel_rfl
theorem z300 : tfields Tryz.prog 72 = (some [(0, (1, false))]) := by kernel_rfl
theorem tab_tsz_87 : tsz Tryz.prog 87 = (some 3) := by kernel_rfl
theorem tab_tbytes_87 : tbytes Tryz.prog 87 = (some 24) := by kernel_rfl
theorem tab_tagg_87 : tagg Tryz.prog 87 = (some true) := by kernel_rfl
theorem z299 : tfields Tryz.prog 87 = (some [(0, (1, false)), (1, (2, true))]) := by kernel_rfl
theorem tab_teq_87 : teq Tryz.prog 87 = (some [(0, false), (1, false), (2, false)]) := by kernel_rfl
theorem tab_tsz_88 : tsz Tryz.prog 88 = (some 1) := by kernel_rfl
theorem tab_tbytes_88 : tbytes Tryz.prog 88 = (some 8) := by kernel_rfl
theorem tab_tagg_88 : tagg Tryz.prog 88 = (some false) := by kernel_rfl
theorem tab_tsz_93 : tsz Tryz.prog 93 = (some 4) := by kernel_rfl
theorem tab_tbytes_93 : tbytes Tryz.prog 93 = (some 32) := by kernel_rfl
theorem tab_tagg_93 : tagg Tryz.prog 93 = (some true) := by kernel_rfl
theorem z298 : tfields Tryz.prog 93 = (some [(0, (1, false)), (1, (1, false)), (2, (2, true))]) := by kernel_rfl
theorem tab_teq_93 : teq Tryz.prog 93 = (some [(0, false), (1, false), (2, false), (3, false)]) := by kernel_rfl
theorem tab_tsz_95 : tsz Tryz.prog 95 = (some 7) := by kernel_rfl
theorem tab_tbytes_95 : tbytes Tryz.prog 95 = (some 56) := by kernel_rfl
theorem tab_tagg_95 : tagg Tryz.prog 95 = (some true) := by kernel_rfl
theorem z297 : tfields Tryz.prog 95 = (some [(0, (1, false)), (1, (1, false)), (2, (1, false)), (3, (4, true))]) := by kernel_rfl
theorem tab_tsz_97 : tsz Tryz.prog 97 = (some 4) := by kernel_rfl
theorem tab_tbytes_97 : tbytes Tryz.prog 97 = (some 96) := by kernel_rfl
theorem tab_tagg_97 : tagg Tryz.prog 97 = (some true) := by kernel_rfl
theorem z296 : tfields Tryz.prog 97 = (some [(0, (4, true))]) := by kernel_rfl
theorem tab_tsz_100 : tsz Tryz.prog 100 = (some 1) := by kernel_rfl
theorem tab_tbytes_100 : tbytes Tryz.prog 100 = (some 8) := by kernel_rfl
theorem tab_tagg_100 : tagg Tryz.prog 100 = (some false) := by kernel_rfl
theorem tab_tsz_103 : tsz Tryz.prog 103 = (some 1) := by kernel_rfl
theorem tab_tbytes_103 : tbytes Tryz.prog 103 = (some 8) := by kernel_rfl
theorem tab_tagg_103 : tagg Tryz.prog 103 = (some false) := by kernel_rfl
theorem tab_tsz_106 : tsz Tryz.prog 106 = (some 1) := by kernel_rfl
theorem tab_tbytes_106 : tbytes Tryz.prog 106 = (some 8) := by kernel_rfl
theorem tab_tagg_106 : tagg Tryz.prog 106 = (some false) := by kernel_rfl
theorem tab_tsz_108 : tsz Tryz.prog 108 = (some 7) := by kernel_rfl
theorem tab_tbytes_108 : tbytes Tryz.prog 108 = (some 152) := by kernel_rfl
theorem tab_tagg_108 : tagg Tryz.prog 108 = (some true) := by kernel_rfl
theorem z245 : tfields Tryz.prog 108 = (some [(0, (4, true)), (4, (1, false)), (5, (1, false)), (6, (1, false))]) := by kernel_rfl
theorem tab_tsz_110 : tsz Tryz.prog 110 = (some 3) := by kernel_rfl
theorem tab_tbytes_110 : tbytes Tryz.prog 110 = (some 24) := by kernel_rfl
theorem tab_tagg_110 : tagg Tryz.prog 110 = (some true) := by kernel_rfl
theorem z244 : tfields Tryz.prog 110 = (some [(0, (1, false)), (1, (1, false)), (2, (1, false))]) := by kernel_rfl
theorem tab_teq_110 : teq Tryz.prog 110 = (some [(0, false), (1, false), (2, false)]) := by kernel_rfl
theorem tab_tsz_116 : tsz Tryz.prog 116 = (some 6) := by kernel_rfl
theorem tab_tbytes_116 : tbytes Tryz.prog 116 = (some 48) := by kernel_rfl
theorem tab_tagg_116 : tagg Tryz.prog 116 = (some true) := by kernel_rfl
theorem z243 : tfields Tryz.prog 116 = (some [(0, (2, true)), (2, (2, true)), (4, (2, true))]) := by kernel_rfl
theorem tab_teq_116 : teq Tryz.prog 116 = (some [(0, false), (1, false), (2, false), (3, false), (4, false), (5, false)]) := by kernel_rfl
theorem tab_tsz_121 : tsz Tryz.prog 121 = (some 1) := by kernel_rfl
theorem tab_tbytes_121 : tbytes Tryz.prog 121 = (some 8) := by kernel_rfl
theorem tab_tagg_121 : tagg Tryz.prog 121 = (some false) := by kernel_rfl
theorem tab_tsz_136 : tsz Tryz.prog 136 = (some 1) := by kernel_rfl
theorem tab_tbytes_136 : tbytes Tryz.prog 136 = (some 24) := by kernel_rfl
theorem tab_tagg_136 : tagg Tryz.prog 136 = (some false) := by kernel_rfl
theorem z295 : tslice Tryz.prog 136 = (some 190) := by kernel_rfl
theorem tab_tsz_138 : tsz Tryz.prog 138 = (some 10) := by kernel_rfl
theorem tab_tbytes_138 : tbytes Tryz.prog 138 = (some 144) := by kernel_rfl
theorem tab_tagg_138 : tagg Tryz.prog 138 = (some true) := by kernel_rfl
theorem z242 : tfields Tryz.prog 138 = (some [(0, (8, true)), (8, (1, false)), (9, (1, false))]) := by kernel_rfl
theorem tab_tsz_141 : tsz Tryz.prog 141 = (some 1) := by kernel_rfl
theorem tab_tbytes_141 : tbytes Tryz.prog 141 = (some 24) := by kernel_rfl
theorem tab_tagg_141 : tagg Tryz.prog 141 = (some false) := by kernel_rfl
theorem z294 : tslice Tryz.prog 141 = (some 34) := by kernel_rfl
theorem tab_tsz_146 : tsz Tryz.prog 146 = (some 4) := by kernel_rfl
theorem tab_tbytes_146 : tbytes Tryz.prog 146 = (some 32) := by kernel_rfl
theorem tab_tagg_146 : tagg Tryz.prog 146 = (some true) := by kernel_rfl
theorem z241 : tfields Tryz.prog 146 = (some [(0, (4, true))]) := by kernel_rfl
theorem tab_tsz_147 : tsz Tryz.prog 147 = (some 1) := by kernel_rfl
theorem tab_tbytes_147 : tbytes Tryz.prog 147 = (some 8) := by kernel_rfl
theorem tab_tagg_147 : tagg Tryz.prog 147 = (some false) := by kernel_rfl
theorem tab_tsz_150 : tsz Tryz.prog 150 = (some 1) := by kernel_rfl
theorem tab_tbytes_150 : tbytes Tryz.prog 150 = (some 24) := by kernel_rfl
theorem tab_tagg_150 : tagg Tryz.prog 150 = (some false) := by kernel_rfl
theorem z293 : tslice Tryz.prog 150 = (some 70) := by kernel_rfl
theorem tab_tsz_152 : tsz Tryz.prog 152 = (some 3) := by kernel_rfl
theorem tab_tbytes_152 : tbytes Tryz.prog 152 = (some 56) := by kernel_rfl
theorem tab_tagg_152 : tagg Tryz.prog 152 = (some true) := by kernel_rfl
theorem z240 : tfields Tryz.prog 152 = (some [(0, (1, false)), (1, (1, false)), (2, (1, false))]) := by kernel_rfl
theorem tab_tsz_154 : tsz Tryz.prog 154 = (some 1) := by kernel_rfl
theorem tab_tbytes_154 : tbytes Tryz.prog 154 = (some 24) := by kernel_rfl
theorem tab_tagg_154 : tagg Tryz.prog 154 = (some false) := by kernel_rfl
theorem z292 : tslice Tryz.prog 154 = (some 4) := by kernel_rfl
theorem tab_tsz_156 : tsz Tryz.prog 156 = (some 1) := by kernel_rfl
theorem tab_tbytes_156 : tbytes Tryz.prog 156 = (some 8) := by kernel_rfl
theorem tab_tagg_156 : tagg Tryz.prog 156 = (some false) := by kernel_rfl
theorem tab_tsz_159 : tsz Tryz.prog 159 = (some 1) := by kernel_rfl
theorem tab_tbytes_159 : tbytes Tryz.prog 159 = (some 8) := by kernel_rfl
theorem tab_tagg_159 : tagg Tryz.prog 159 = (some false) := by kernel_rfl
theorem tab_tsz_160 : tsz Tryz.prog 160 = (some 1) := by kernel_rfl
theorem tab_tbytes_160 : tbytes Tryz.prog 160 = (some 8) := by kernel_rfl
theorem tab_tagg_160 : tagg Tryz.prog 160 = (some false) := by kernel_rfl
theorem tab_tsz_161 : tsz Tryz.prog 161 = (some 1) := by kernel_rfl
theorem tab_tbytes_161 : tbytes Tryz.prog 161 = (some 8) := by kernel_rfl
theorem tab_tagg_161 : tagg Tryz.prog 161 = (some false) := by kernel_rfl
theorem tab_tsz_163 : tsz Tryz.prog 163 = (some 1) := by kernel_rfl
theorem tab_tbytes_163 : tbytes Tryz.prog 163 = (some 8) := by kernel_rfl
theorem tab_tagg_163 : tagg Tryz.prog 163 = (some false) := by kernel_rfl
theorem tab_tsz_164 : tsz Tryz.prog 164 = (some 1) := by kernel_rfl
theorem tab_tbytes_164 : tbytes Tryz.prog 164 = (some 8) := by kernel_rfl
theorem tab_tagg_164 : tagg Tryz.prog 164 = (some false) := by kernel_rfl
theorem tab_tsz_166 : tsz Tryz.prog 166 = (some 1) := by kernel_rfl
theorem tab_tbytes_166 : tbytes Tryz.prog 166 = (some 8) := by kernel_rfl
theorem tab_tagg_166 : tagg Tryz.prog 166 = (some false) := by kernel_rfl
theorem tab_tsz_180 : tsz Tryz.prog 180 = (some 1) := by kernel_rfl
theorem tab_tbytes_180 : tbytes Tryz.prog 180 = (some 8) := by kernel_rfl
theorem tab_tagg_180 : tagg Tryz.prog 180 = (some false) := by kernel_rfl
theorem tab_tsz_184 : tsz Tryz.prog 184 = (some 2) := by kernel_rfl
theorem tab_tbytes_184 : tbytes Tryz.prog 184 = (some 16) := by kernel_rfl
theorem tab_tagg_184 : tagg Tryz.prog 184 = (some true) := by kernel_rfl
theorem z239 : tfields Tryz.prog 184 = (some [(0, (1, false)), (1, (1, false))]) := by kernel_rfl
theorem tab_teq_184 : teq Tryz.prog 184 = (some [(0, false), (1, true)]) := by kernel_rfl
theorem tab_tsz_188 : tsz Tryz.prog 188 = (some 1) := by kernel_rfl
theorem tab_tbytes_188 : tbytes Tryz.prog 188 = (some 8) := by kernel_rfl
theorem tab_tagg_188 : tagg Tryz.prog 188 = (some false) := by kernel_rfl
theorem tab_tsz_190 : tsz Tryz.prog 190 = (some 2) := by kernel_rfl
theorem tab_tbytes_190 : tbytes Tryz.prog 190 = (some 16) := by kernel_rfl
theorem tab_tagg_190 : tagg Tryz.prog 190 = (some true) := by kernel_rfl
theorem z238 : tfields Tryz.prog 190 = (some [(0, (1, false)), (1, (1, false))]) := by kernel_rfl
theorem tab_teq_190 : teq Tryz.prog 190 = (some [(0, false), (1, false)]) := by kernel_rfl
theorem tab_tsz_197 : tsz Tryz.prog 197 = (some 3) := by kernel_rfl
theorem tab_tbytes_197 : tbytes Tryz.prog 197 = (some 24) := by kernel_rfl
theorem tab_tagg_197 : tagg Tryz.prog 197 = (some true) := by kernel_rfl
theorem z237 : tfields Tryz.prog 197 = (some [(0, (1, false)), (1, (1, false)), (2, (1, false))]) := by kernel_rfl
theorem tab_teq_197 : teq Tryz.prog 197 = (some [(0, false), (1, false), (2, false)]) := by kernel_rfl
theorem tab_tsz_199 : tsz Tryz.prog 199 = (some 4) := by kernel_rfl
theorem tab_tbytes_199 : tbytes Tryz.prog 199 = (some 32) := by kernel_rfl
theorem tab_tagg_199 : tagg Tryz.prog 199 = (some true) := by kernel_rfl
theorem z236 : tfields Tryz.prog 199 = (some [(0, (1, false)), (1, (3, true))]) := by kernel_rfl
theorem tab_teq_199 : teq Tryz.prog 199 = (some [(0, false), (1, false), (2, false), (3, false)]) := by kernel_rfl
theorem tab_tsz_207 : tsz Tryz.prog 207 = (some 1) := by kernel_rfl
theorem tab_tbytes_207 : tbytes Tryz.prog 207 = (some 8) := by kernel_rfl
theorem tab_tagg_207 : tagg Tryz.prog 207 = (some false) := by kernel_rfl
theorem tab_tsz_211 : tsz Tryz.prog 211 = (some 1) := by kernel_rfl
theorem tab_tbytes_211 : tbytes Tryz.prog 211 = (some 8) := by kernel_rfl
theorem tab_tagg_211 : tagg Tryz.prog 211 = (some false) := by kernel_rfl
theorem tab_tsz_223 : tsz Tryz.prog 223 = (some 1) := by kernel_rfl
theorem tab_tbytes_223 : tbytes Tryz.prog 223 = (some 8) := by kernel_rfl
theorem tab_tagg_223 : tagg Tryz.prog 223 = (some false) := by kernel_rfl
theorem tab_tsz_225 : tsz Tryz.prog 225 = (some 1) := by kernel_rfl
theorem tab_tbytes_225 : tbytes Tryz.prog 225 = (some 8) := by kernel_rfl
theorem tab_tagg_225 : tagg Tryz.prog 225 = (some false) := by kernel_rfl
theorem tab_tmapK_225 : tmapK Tryz.prog 225 = (some (none, 3)) := by kernel_rfl
theorem tab_zero_1 : tzero Tryz.prog 1 = some Value.nilFunc := by kernel_rfl
theorem tab_zero_2 : tzero Tryz.prog 2 = some (Value.int IntKind.i64 0) := by kernel_rfl
theorem tab_zero_3 : tzero Tryz.prog 3 = some (Value.int IntKind.i64 0) := by kernel_rfl
theorem tab_zero_4 : tzero Tryz.prog 4 = some (Value.bool false) := by kernel_rfl
theorem tab_zero_17 : tzero Tryz.prog 17 = some (Value.pointer none) := by kernel_rfl
theorem tab_zero_22 : tzero Tryz.prog 22 = some (Value.slice none 0 0) := by kernel_rfl
theorem tab_zero_23 : tzero Tryz.prog 23 = some (Value.slice none 0 0) := by kernel_rfl
theorem tab_zero_24 : tzero Tryz.prog 24 = some (Value.slice none 0 0) := by kernel_rfl
theorem tab_zero_25 : tzero Tryz.prog 25 = some (Value.slice none 0 0) := by kernel_rfl
theorem tab_zero_27 : tzero Tryz.prog 27 = some (Value.agg #[Value.slice none 0 0, Value.slice none 0 0, Value.slice none 0 0, Value.slice none 0 0]) := by kernel_rfl
theorem tab_zero_28 : tzero Tryz.prog 28 = some (Value.slice none 0 0) := by kernel_rfl
theorem tab_zero_29 : tzero Tryz.prog 29 = some (Value.slice none 0 0) := by kernel_rfl
theorem tab_zero_31 : tzero Tryz.prog 31 = some (Value.agg #[Value.slice none 0 0]) := by kernel_rfl
theorem tab_zero_32 : tzero Tryz.prog 32 = some (Value.slice none 0 0) := by kernel_rfl
theorem tab_zero_34 : tzero Tryz.prog 34 = some (Value.agg #[Value.int IntKind.i64 0, Value.int IntKind.i64 0]) := by kernel_rfl
theorem tab_zero_36 : tzero Tryz.prog 36 = some (Value.agg #[Value.int IntKind.i64 0, Value.int IntKind.i64 0, Value.int IntKind.i64 0, Value.int IntKind.i64 0, Value.int IntKind.i64 0]) := by kernel_rfl
theorem tab_zero_37 : tzero Tryz.prog 37 = some (Value.slice none 0 0) := by kernel_rfl
theorem tab_zero_39 : tzero Tryz.prog 39 = some (Value.agg #[Value.slice none 0 0, Value.slice none 0 0, Value.int IntKind.i64 0, Value.int IntKind.i64 0, Value.int IntKind.i64 0, Value.int IntKind.i64 0, Value.int IntKind.i64 0, Value.slice none 0 0]) := by kernel_rfl
theorem tab_zero_41 : tzero Tryz.prog 41 = some (Value.agg #[Value.slice none 0 0, Value.slice none 0 0, Value.int IntKind.i64 0, Value.int IntKind.i64 0, Value.int IntKind.i64 0, Value.int IntKind.i64 0, Value.int IntKind.i64 0, Value.slice none 0 0, Value.int IntKind.i64 0, Value.int IntKind.i64 0]) := by kernel_rfl
theorem tab_zero_46 : tzero Tryz.prog 46 = some (Value.int IntKind.i64 0) := by kernel_rfl
theorem tab_zero_67 : tzero Tryz.prog 67 = some (Value.slice none 0 0) := by kernel_rfl
theorem tab_zero_69 : tzero Tryz.prog 69 = some (Value.agg #[Value.slice none 0 0]) := by kernel_rfl
theorem tab_zero_70 : tzero Tryz.prog 70 = some (Value.slice none 0 0) := by kernel_rfl
theorem tab_zero_72 : tzero Tryz.prog 72 = some (Value.agg #[Value.slice none 0 0]) := by kernel_rfl
theorem tab_zero_87 : tzero Tryz.prog 87 = some (Value.agg #[Value.int IntKind.i64 0, Value.int IntKind.i64 0, Value.int IntKind.i64 0]) := by kernel_rfl
theorem tab_zero_88 : tzero Tryz.prog 88 = some (Value.pointer none) := by kernel_rfl
theorem tab_zero_93 : tzero Tryz.prog 93 = some (Value.agg #[Value.int IntKind.i64 0, Value.int IntKind.i64 0, Value.int IntKind.i64 0, Value.int IntKind.i64 0]) := by kernel_rfl
theorem tab_zero_95 : tzero Tryz.prog 95 = some (Value.agg #[Value.int IntKind.i64 0, Value.int IntKind.i64 0, Value.int IntKind.i64 0, Value.int IntKind.i64 0, Value.int IntKind.i64 0, Value.int IntKind.i64 0, Value.int IntKind.i64 0]) := by kernel_rfl
theorem tab_zero_97 : tzero Tryz.prog 97 = some (Value.agg #[Value.slice none 0 0, Value.slice none 0 0, Value.slice none 0 0, Value.slice none 0 0]) := by kernel_rfl
theorem tab_zero_100 : tzero Tryz.prog 100 = some (Value.pointer none) := by kernel_rfl
theorem tab_zero_103 : tzero Tryz.prog 103 = some Value.nilFunc := by kernel_rfl
theorem tab_zero_106 : tzero Tryz.prog 106 = some Value.nilFunc := by kernel_rfl
theorem tab_zero_108 : tzero Tryz.prog 108 = some (Value.agg #[Value.slice none 0 0, Value.slice none 0 0, Value.slice none 0 0, Value.slice none 0 0, Value.slice none 0 0, Value.slice none 0 0, Value.int IntKind.i64 0]) := by kernel_rfl
theorem tab_zero_110 : tzero Tryz.prog 110 = some (Value.agg #[Value.int IntKind.i64 0, Value.int IntKind.i64 0, Value.int IntKind.i64 0]) := by kernel_rfl
theorem tab_zero_116 : tzero Tryz.prog 116 = some (Value.agg #[Value.int IntKind.i64 0, Value.int IntKind.i64 0, Value.int IntKind.i64 0, Value.int IntKind.i64 0, Value.int IntKind.i64 0, Value.int IntKind.i64 0]) := by kernel_rfl
theorem tab_zero_121 : tzero Tryz.prog 121 = some Value.nilFunc := by kernel_rfl
theorem tab_zero_136 : tzero Tryz.prog 136 = some (Value.slice none 0 0) := by kernel_rfl
theorem tab_zero_138 : tzero Tryz.prog 138 = some (Value.agg #[Value.slice none 0 0, Value.slice none 0 0, Value.int IntKind.i64 0, Value.int IntKind.i64 0, Value.int IntKind.i64 0, Value.int IntKind.i64 0, Value.int IntKind.i64 0, Value.slice none 0 0, Value.slice none 0 0, Value.int IntKind.i64 0]) := by kernel_rfl
theorem tab_zero_141 : tzero Tryz.prog 141 = some (Value.slice none 0 0) := by kernel_rfl
theorem tab_zero_146 : tzero Tryz.prog 146 = some (Value.agg #[Value.int IntKind.i64 0, Value.int IntKind.i64 0, Value.int IntKind.i64 0, Value.int IntKind.i64 0]) := by kernel_rfl
theorem tab_zero_147 : tzero Tryz.prog 147 = some (Value.pointer none) := by kernel_rfl
theorem tab_zero_150 : tzero Tryz.prog 150 = some (Value.slice none 0 0) := by kernel_rfl
theorem tab_zero_152 : tzero Tryz.prog 152 = some (Value.agg #[Value.slice none 0 0, Value.slice none 0 0, Value.int IntKind.i64 0]) := by kernel_rfl
theorem tab_zero_154 : tzero Tryz.prog 154 = some (Value.slice none 0 0) := by kernel_rfl
theorem tab_zero_156 : tzero Tryz.prog 156 = some Value.nilFunc := by kernel_rfl
theorem tab_zero_159 : tzero Tryz.prog 159 = some Value.nilFunc := by kernel_rfl
theorem tab_zero_160 : tzero Tryz.prog 160 = some Value.nilFunc := by kernel_rfl
theorem tab_zero_161 : tzero Tryz.prog 161 = some Value.nilFunc := by kernel_rfl
theorem tab_zero_163 : tzero Tryz.prog 163 = some Value.nilFunc := by kernel_rfl
theorem tab_zero_164 : tzero Tryz.prog 164 = some Value.nilFunc := by kernel_rfl
theorem tab_zero_166 : tzero Tryz.prog 166 = some Value.nilFunc := by kernel_rfl
theorem tab_zero_180 : tzero Tryz.prog 180 = some Value.nilFunc := by kernel_rfl
theorem tab_zero_184 : tzero Tryz.prog 184 = some (Value.agg #[Value.int IntKind.i64 0, Value.bool false]) := by kernel_rfl
theorem tab_zero_188 : tzero Tryz.prog 188 = some Value.nilFunc := by kernel_rfl
theorem tab_zero_190 : tzero Tryz.prog 190 = some (Value.agg #[Value.int IntKind.i64 0, Value.int IntKind.i64 0]) := by kernel_rfl
theorem tab_zero_197 : tzero Tryz.prog 197 = some (Value.agg #[Value.int IntKind.i64 0, Value.int IntKind.i64 0, Value.int IntKind.i64 0]) := by kernel_rfl
theorem tab_zero_199 : tzero Tryz.prog 199 = some (Value.agg #[Value.int IntKind.i64 0, Value.int IntKind.i64 0, Value.int IntKind.i64 0, Value.int IntKind.i64 0]) := by kernel_rfl
theorem tab_zero_207 : tzero Tryz.prog 207 = some Value.nilFunc := by kernel_rfl
theorem tab_zero_211 : tzero Tryz.prog 211 = some Value.nilFunc := by kernel_rfl
theorem tab_zero_223 : tzero Tryz.prog 223 = some Value.nilFunc := by kernel_rfl
theorem tab_zero_225 : tzero Tryz.prog 225 = some (Value.map none) := by kernel_rfl
attribute [go_sem] tab_tsz_0 tab_tbytes_0 tab_tagg_0 tab_tsz_1 tab_tbytes_1 tab_tagg_1 tab_tsz_2 tab_tbytes_2 tab_tagg_2 tab_tint_2 tab_tsz_3 tab_tbytes_3 tab_tagg_3 tab_tint_3 tab_tsz_4 tab_tbytes_4 tab_tagg_4 tab_tsz_17 tab_tbytes_17 tab_tagg_17 tab_tsz_22 tab_tbytes_22 tab_tagg_22 tab_tslice_22 tab_tsz_23 tab_tbytes_23 tab_tagg_23 tab_tslice_23 tab_tsz_24 tab_tbytes_24 tab_tagg_24 tab_tslice_24 tab_tsz_25 tab_tbytes_25 tab_tagg_25 tab_tslice_25 tab_tsz_27 tab_tbytes_27 tab_tagg_27 tab_tfields_27 tab_tsz_28 tab_tbytes_28 tab_tagg_28 tab_tslice_28 tab_tsz_29 tab_tbytes_29 tab_tagg_29 tab_tslice_29 tab_tsz_31 tab_tbytes_31 tab_tagg_31 tab_tfields_31 tab_tsz_32 tab_tbytes_32 tab_tagg_32 tab_tslice_32 tab_tsz_34 tab_tbytes_34 tab_tagg_34 tab_tfields_34 tab_teq_34 tab_tsz_36 tab_tbytes_36 tab_tagg_36 tab_tfields_36 tab_teq_36 tab_tsz_37 tab_tbytes_37 tab_tagg_37 tab_tslice_37 tab_tsz_39 tab_tbytes_39 tab_tagg_39 tab_tfields_39 tab_tsz_41 tab_tbytes_41 tab_tagg_41 z302 tab_tsz_46 tab_tbytes_46 tab_tagg_46 tab_tint_46 tab_tsz_67 tab_tbytes_67 tab_tagg_67 tab_tslice_67 tab_tsz_69 tab_tbytes_69 tab_tagg_69 z301 tab_tsz_70 tab_tbytes_70 tab_tagg_70 tab_tslice_70 tab_tsz_72 tab_tbytes_72 tab_tagg_72 z300 tab_tsz_87 tab_tbytes_87 tab_tagg_87 z299 tab_teq_87 tab_tsz_88 tab_tbytes_88 tab_tagg_88 tab_tsz_93 tab_tbytes_93 tab_tagg_93 z298 tab_teq_93 tab_tsz_95 tab_tbytes_95 tab_tagg_95 z297 tab_tsz_97 tab_tbytes_97 tab_tagg_97 z296 tab_tsz_100 tab_tbytes_100 tab_tagg_100 tab_tsz_103 tab_tbytes_103 tab_tagg_103 tab_tsz_106 tab_tbytes_106 tab_tagg_106 tab_tsz_108 tab_tbytes_108 tab_tagg_108 z245 tab_tsz_110 tab_tbytes_110 tab_tagg_110 z244 tab_teq_110 tab_tsz_116 tab_tbytes_116 tab_tagg_116 z243 tab_teq_116 tab_tsz_121 tab_tbytes_121 tab_tagg_121 tab_tsz_136 tab_tbytes_136 tab_tagg_136 z295 tab_tsz_138 tab_tbytes_138 tab_tagg_138 z242 tab_tsz_141 tab_tbytes_141 tab_tagg_141 z294 tab_tsz_146 tab_tbytes_146 tab_tagg_146 z241 tab_tsz_147 tab_tbytes_147 tab_tagg_147 tab_tsz_150 tab_tbytes_150 tab_tagg_150 z293 tab_tsz_152 tab_tbytes_152 tab_tagg_152 z240 tab_tsz_154 tab_tbytes_154 tab_tagg_154 z292 tab_tsz_156 tab_tbytes_156 tab_tagg_156 tab_tsz_159 tab_tbytes_159 tab_tagg_159 tab_tsz_160 tab_tbytes_160 tab_tagg_160 tab_tsz_161 tab_tbytes_161 tab_tagg_161 tab_tsz_163 tab_tbytes_163 tab_tagg_163 tab_tsz_164 tab_tbytes_164 tab_tagg_164 tab_tsz_166 tab_tbytes_166 tab_tagg_166 tab_tsz_180 tab_tbytes_180 tab_tagg_180 tab_tsz_184 tab_tbytes_184 tab_tagg_184 z239 tab_teq_184 tab_tsz_188 tab_tbytes_188 tab_tagg_188 tab_tsz_190 tab_tbytes_190 tab_tagg_190 z238 tab_teq_190 tab_tsz_197 tab_tbytes_197 tab_tagg_197 z237 tab_teq_197 tab_tsz_199 tab_tbytes_199 tab_tagg_199 z236 tab_teq_199 tab_tsz_207 tab_tbytes_207 tab_tagg_207 tab_tsz_211 tab_tbytes_211 tab_tagg_211 tab_tsz_223 tab_tbytes_223 tab_tagg_223 tab_tsz_225 tab_tbytes_225 tab_tagg_225 tab_tmapK_225 tab_zero_1 tab_zero_2 tab_zero_3 tab_zero_4 tab_zero_17 tab_zero_22 tab_zero_23 tab_zero_24 tab_zero_25 tab_zero_27 tab_zero_28 tab_zero_29 tab_zero_31 tab_zero_32 tab_zero_34 tab_zero_36 tab_zero_37 tab_zero_39 tab_zero_41 tab_zero_46 tab_zero_67 tab_zero_69 tab_zero_70 tab_zero_72 tab_zero_87 tab_zero_88 tab_zero_93 tab_zero_95 tab_zero_97 tab_zero_100 tab_zero_103 tab_zero_106 tab_zero_108 tab_zero_110 tab_zero_116 tab_zero_121 tab_zero_136 tab_zero_138 tab_zero_141 tab_zero_146 tab_zero_147 tab_zero_150 tab_zero_152 tab_zero_154 tab_zero_156 tab_zero_159 tab_zero_160 tab_zero_161 tab_zero_163 tab_zero_164 tab_zero_166 tab_zero_180 tab_zero_184 tab_zero_188 tab_zero_190 tab_zero_197 tab_zero_199 tab_zero_207 tab_zero_211 tab_zero_223 tab_zero_225 Tryz.underlying2 Tryz.underlying3 Tryz.underlying4 Tryz.underlying17 Tryz.underlying46 Tryz.underlying88 Tryz.underlying100 Tryz.underlying147
end Go.Ab
namespace Go.Ab
open Go.RowKit Go.Proofs
structure Span where
  lo : Int
  hi : Int
structure Hour where
  wind : Span
  rain : Span
  temp : Span
structure Sky where
  wind : Int
  rain : Int
  temp : Int
structure Sight where
  hour : Int
  sky : Sky
structure Plant where
  scen : List (List Hour)
  seen : List Sight
  sun : List Int
  gain : Int
  start : Int
  stop : Int
  charge : Int
  capacity : Int
  reserve : Int
  gas : Int
  rate : Int
  units : Int
  needs : List Int
def Span.row (s : Span) : List DV := [.i s.lo, .i s.hi]
def Hour.row (h : Hour) : List DV := [.i h.wind.lo, .i h.wind.hi, .i h.rain.lo, .i h.rain.hi, .i h.temp.lo, .i h.temp.hi]
def Sky.row (s : Sky) : List DV := [.i s.wind, .i s.rain, .i s.temp]
def Sight.row (s : Sight) : List DV := [.i s.hour, .i s.sky.wind, .i s.sky.rain, .i s.sky.temp]
def hourRows (l : List Hour) : List (List DV) := l.map Hour.row
def scenRows (l : List (List Hour)) : List (List DV) := l.map fun h => [.sl (hourRows h)]
def intRows (l : List Int) : List (List DV) := l.map fun x => [.i x]
def sightRows (l : List Sight) : List (List DV) := l.map Sight.row
def skyRows (l : List Sky) : List (List DV) := l.map Sky.row
def Plant.cells (p : Plant) : List DV := [.sl (scenRows p.scen), .sl (sightRows p.seen), .sl (intRows p.sun), .i p.gain, .i p.start, .i p.stop, .i p.charge, .i p.capacity, .i p.reserve, .i p.gas, .i p.rate, .i p.units, .sl (intRows p.needs)]
theorem hourRows_len (l : List Hour) : (hourRows l).length = l.length := by simp [hourRows]
theorem z32 (l : List (List Hour)) : (scenRows l).length = l.length := by simp [scenRows]
theorem z271 (l : List Int) : (intRows l).length = l.length := by simp [intRows]
theorem z57 (l : List Sight) : (sightRows l).length = l.length := by simp [sightRows]
theorem skyRows_len (l : List Sky) : (skyRows l).length = l.length := by simp [skyRows]
theorem z44 {l : List Hour} {i : Nat} {x : Hour} (h : l[i]? = some x) : (hourRows l)[i]? = some x.row := by simp [hourRows, h]
theorem z35 {l : List (List Hour)} {i : Nat} {x : List Hour} (h : l[i]? = some x) : (scenRows l)[i]? = some [.sl (hourRows x)] := by simp [scenRows, h]
theorem z48 {l : List Int} {i : Nat} {x : Int} (h : l[i]? = some x) : (intRows l)[i]? = some [.i x] := by simp [intRows, h]
theorem z64 {l : List Sight} {i : Nat} {x : Sight} (h : l[i]? = some x) : (sightRows l)[i]? = some x.row := by simp [sightRows, h]
theorem hourRows_head (l : List Hour) : headIs 6 (hourRows l) = true := by cases l <;> rfl
theorem scenRows_head (l : List (List Hour)) : headIs 1 (scenRows l) = true := by cases l <;> rfl
theorem intRows_head (l : List Int) : headIs 1 (intRows l) = true := by cases l <;> rfl
theorem sightRows_head (l : List Sight) : headIs 4 (sightRows l) = true := by cases l <;> rfl
theorem skyRows_head (l : List Sky) : headIs 3 (skyRows l) = true := by cases l <;> rfl
attribute [go_sem] hourRows_len z32 z271 z57 skyRows_len hourRows_head scenRows_head intRows_head sightRows_head skyRows_head
theorem z65 {α : Type} {f : α → List DV} (h : ∀ x, ∀ d ∈ f x, d.flat = true) (l : List α) : rowsFlat (l.map f) := by
  intro r hr d hd
  obtain ⟨x, _, rfl⟩ := List.mem_map.1 hr
  exact h x d hd
theorem z51 (l : List Int) : rowsFlat (intRows l) := z65 (by intro x d hd; simp at hd; subst hd; rfl) l
theorem z69 (l : List Hour) : rowsFlat (hourRows l) := z65 (by intro x d hd; simp [Hour.row] at hd; rcases hd with rfl | rfl | rfl | rfl | rfl | rfl <;> rfl) l
theorem z58 (l : List Sight) : rowsFlat (sightRows l) := z65 (by intro x d hd; simp [Sight.row] at hd; rcases hd with rfl | rfl | rfl | rfl <;> rfl) l
theorem z81 (l : List Sky) : rowsFlat (skyRows l) := z65 (by intro x d hd; simp [Sky.row] at hd; rcases hd with rfl | rfl | rfl <;> rfl) l
abbrev wr (x : Int) : Int := IntKind.i64.wrap x
theorem z23 {x : Int} (h : -(2 ^ 63) ≤ x ∧ x < 2 ^ 63) : IntKind.i64.wrap x = x := by
  rw [IntKind.wrap_i64]; omega
theorem z41 {α β : Type} (f : β → α → β) (b : β) (l : List α) (i : Nat) (x : α) (h : l[i]? = some x) : (l.take (i + 1)).foldl f b = f ((l.take i).foldl f b) x := by
  rw [List.take_add_one, h]; simp
theorem z30 {α : Type} {l : List α} {i : Nat} {x : α} (h : l[i]? = some x) : l.drop i = x :: l.drop (i + 1) := by
  obtain ⟨hlt, rfl⟩ := List.getElem?_eq_some_iff.1 h
  exact List.drop_eq_getElem_cons hlt
def idxFrom {α : Type} (q : α → Bool) : List α → Nat → Int
  | [], _ => -1
  | x :: xs, i => if q x then (i : Int) else idxFrom q xs (i + 1)
theorem z34 {α : Type} (q : α → Bool) : ∀ (l : List α) (i : Nat), decide (idxFrom q l i ≥ 0) = l.any q
  | [], i => by simp [idxFrom]
  | x :: xs, i => by
    simp only [idxFrom, List.any_cons]
    by_cases h : q x
    · simp [h]
    · simp [h, ← z34 q xs (i + 1)]
theorem z132 {α : Type} (l : List α) (q : α → Bool) : (!(l.any fun s => !q s)) = l.all q := by
  induction l with
  | nil => rfl
  | cons x xs ih => simp only [List.any_cons, List.all_cons, ← ih]; cases q x <;> simp
theorem any_of_get {α : Type} {l : List α} {q : α → Bool} {i : Nat} {x : α} (h : l[i]? = some x) (hq : q x = true) : l.any q = true :=
  List.any_eq_true.2 ⟨x, List.mem_of_getElem? h, hq⟩
theorem any_take_succ {α : Type} {l : List α} {q : α → Bool} {i : Nat} {x : α} (h : l[i]? = some x) (h0 : (l.take i).any q = false) (hq : q x = false) : (l.take (i + 1)).any q = false := by
  rw [List.take_add_one, h]; simp [h0, hq]
theorem z89 {α : Type} {l : List α} {q : α → Bool} {i : Nat} {x : α} (h : l[i]? = some x) (h0 : (l.take i).all q = true) (hq : q x = true) : (l.take (i + 1)).all q = true := by
  rw [List.take_add_one, h]; simp [h0, hq]
theorem z158 {α : Type} {l : List α} {q : α → Bool} {i : Nat} {x : α} (h : l[i]? = some x) (hq : q x = false) : l.all q = false := by
  cases hc : l.all q with
  | false => rfl
  | true => rw [List.all_eq_true] at hc; have := hc x (List.mem_of_getElem? h); rw [hq] at this; cases this
theorem z28 (m : List (Option Blk)) (x : AV) (d : DV) (caps : List DV) (h : reify m deep x = some d) : allSome ((x :: caps.map AV.d).map (reify m deep)) = some (d :: caps) := by
  have : ∀ l : List DV, allSome ((l.map AV.d).map (reify m deep)) = some l := by
    intro l
    induction l with
    | nil => rfl
    | cons a l ih =>
      simp only [List.map_cons]
      rw [show reify m deep (AV.d a) = some a from rfl]
      simp only [allSome, ih, Option.map_some]
  simp only [List.map_cons, h, allSome]
  rw [this caps]
  rfl
def getI (l : List Int) (i : Int) : Int := l.getD i.toNat 0
end Go.Ab
namespace Go.Ab
open Go.RowKit Go.Proofs
set_option maxHeartbeats 4000000
set_option maxRecDepth 20000
attribute [local irreducible] WalkL Walk
def withinB (n lo hi : Int) : Bool := decide (lo ≤ n) && decide (n ≤ hi)
def orderedB (s : Span) (lo hi : Int) : Bool := decide (lo ≤ s.lo) && (decide (s.lo ≤ s.hi) && decide (s.hi ≤ hi))
theorem z27 {x lo hi : Int} : withinB x lo hi = true ↔ lo ≤ x ∧ x ≤ hi := by simp [withinB]
theorem z291 (n lo hi : Int) : Fn Tryz.prog 110 [.i n, .i lo, .i hi] (.bool (withinB n lo hi)) := by
  refine z21 15 Tryz.call110 Tryz.func110 rfl (by decide) fun J => ?_
  simp (maxSteps := 4000000) only [go_sem, St.start, Tryz.ntmps110, Tryz.results110]
  by_cases h : lo ≤ n
  · repeat (first | refine z14 ?_ | refine z9 ?_ | refine z7 ?_ | (refine z5 fun K hK => ?_; simp (maxSteps := 4000000) only [go_sem, h]; refine hK _ ?_; clear hK K) | refine z13 ?_ | refine z15 ?_ | refine z10 ?_ | refine z8 ?_ | refine z6 rfl ?_ | refine z12 ?_ | refine z3 ?_ | refine z16 ?_ | refine z11 ?_ | refine z4 ?_)
    simp (maxSteps := 4000000) only [go_sem, withinB, h]
  · repeat (first | refine z14 ?_ | refine z9 ?_ | refine z7 ?_ | (refine z5 fun K hK => ?_; simp (maxSteps := 4000000) only [go_sem, h]; refine hK _ ?_; clear hK K) | refine z13 ?_ | refine z15 ?_ | refine z10 ?_ | refine z8 ?_ | refine z6 rfl ?_ | refine z12 ?_ | refine z3 ?_ | refine z16 ?_ | refine z11 ?_ | refine z4 ?_)
    simp (maxSteps := 4000000) only [go_sem, withinB, h]
theorem zf173 (s : Span) (lo hi : Int) : Fn Tryz.prog 173 [.agg s.row, .i lo, .i hi] (.bool (orderedB s lo hi)) := by
  refine z21 24 Tryz.call173 Tryz.func173 rfl (by decide) fun J => ?_
  simp (maxSteps := 4000000) only [go_sem, St.start, Tryz.ntmps173, Tryz.results173, Span.row]
  by_cases h : lo ≤ s.lo <;> by_cases h2 : s.lo ≤ s.hi
  all_goals
    repeat (first | refine z14 ?_ | refine z9 ?_ | refine z7 ?_ | (refine z5 fun K hK => ?_; simp (maxSteps := 4000000) only [go_sem, h, h2]; refine hK _ ?_; clear hK K) | refine z13 ?_ | refine z15 ?_ | refine z10 ?_ | refine z8 ?_ | refine z6 rfl ?_ | refine z12 ?_ | refine z3 ?_ | refine z16 ?_ | refine z11 ?_ | refine z4 ?_)
    simp (maxSteps := 4000000) only [go_sem, orderedB, h, h2]
def hourB (h : Hour) : Bool := orderedB h.wind 0 200 && (orderedB h.rain 0 100 && orderedB h.temp (-50) 50)
theorem zf168 (h : Hour) : Fn Tryz.prog 168 [.agg h.row] (.bool (hourB h)) := by
  have h1 := zf173 h.wind 0 200
  have h2 := zf173 h.rain 0 100
  have h3 := zf173 h.temp (-50) 50
  rw [Span.row] at h1 h2 h3
  obtain ⟨b1, e1⟩ : ∃ b, b = orderedB h.wind 0 200 := ⟨_, rfl⟩
  obtain ⟨b2, e2⟩ : ∃ b, b = orderedB h.rain 0 100 := ⟨_, rfl⟩
  obtain ⟨b3, e3⟩ : ∃ b, b = orderedB h.temp (-50) 50 := ⟨_, rfl⟩
  rw [hourB, ← e1, ← e2, ← e3]
  rw [← e1] at h1
  rw [← e2] at h2
  rw [← e3] at h3
  refine z21 16 Tryz.call168 Tryz.func168 rfl (by decide) fun J => ?_
  simp (maxSteps := 4000000) only [go_sem, St.start, Tryz.ntmps168, Tryz.results168, Hour.row]
  cases b1 <;> cases b2
  all_goals
    repeat (first | refine z14 ?_ | refine z9 ?_ | refine z7 ?_ | (refine z5 fun K hK => ?_; simp (maxSteps := 4000000) only [go_sem]; (repeat (first | (refine ⟨_, .lent (hf := h1) (hd := rfl) (hr := rfl), ?_⟩; simp (maxSteps := 4000000) only [go_sem]) | (refine ⟨_, .lent (hf := h2) (hd := rfl) (hr := rfl), ?_⟩; simp (maxSteps := 4000000) only [go_sem]) | (refine ⟨_, .lent (hf := h3) (hd := rfl) (hr := rfl), ?_⟩; simp (maxSteps := 4000000) only [go_sem]) | (refine ⟨_, .given (hf := h1) (hd := rfl) (ha := rfl), ?_⟩; simp (maxSteps := 4000000) only [go_sem]) | (refine ⟨_, .given (hf := h2) (hd := rfl) (ha := rfl), ?_⟩; simp (maxSteps := 4000000) only [go_sem]) | (refine ⟨_, .given (hf := h3) (hd := rfl) (ha := rfl), ?_⟩; simp (maxSteps := 4000000) only [go_sem]))); refine hK _ ?_; clear hK K) | refine z13 ?_ | refine z15 ?_ | refine z10 ?_ | refine z8 ?_ | refine z6 rfl ?_ | refine z12 ?_ | refine z3 ?_ | refine z16 ?_ | refine z11 ?_ | refine z4 ?_)
    simp (maxSteps := 4000000) only [go_sem]
theorem zf172 (n : Int) : Fn Tryz.prog 172 [.i n] (.agg [.i n, .i n]) := by
  refine z21 6 Tryz.call172 Tryz.func172 rfl (by decide) fun J => ?_
  simp (maxSteps := 4000000) only [go_sem, St.start, Tryz.ntmps172, Tryz.results172]
  repeat (first | refine z14 ?_ | refine z9 ?_ | refine z7 ?_ | (refine z5 fun K hK => ?_; simp (maxSteps := 4000000) only [go_sem]; refine hK _ ?_; clear hK K) | refine z13 ?_ | refine z15 ?_ | refine z10 ?_ | refine z8 ?_ | refine z6 rfl ?_ | refine z12 ?_ | refine z3 ?_ | refine z16 ?_ | refine z11 ?_ | refine z4 ?_)
  simp (maxSteps := 4000000) only [go_sem]
def pointH (s : Sky) : Hour := ⟨⟨s.wind, s.wind⟩, ⟨s.rain, s.rain⟩, ⟨s.temp, s.temp⟩⟩
theorem zf147 (s : Sky) : Fn Tryz.prog 147 [.agg s.row] (.agg (pointH s).row) := by
  refine z21 17 Tryz.call147 Tryz.func147 rfl (by decide) fun J => ?_
  simp (maxSteps := 4000000) only [go_sem, St.start, Tryz.ntmps147, Tryz.results147, Sky.row]
  repeat (first | refine z14 ?_ | refine z9 ?_ | refine z7 ?_ | (refine z5 fun K hK => ?_; simp (maxSteps := 4000000) only [go_sem]; refine hK _ ?_; clear hK K) | refine z13 ?_ | refine z15 ?_ | refine z10 ?_ | refine z8 ?_ | refine z6 rfl ?_ | refine z12 ?_ | refine z3 ?_ | refine z16 ?_ | refine z11 ?_ | refine z4 ?_)
  refine z24 (by kernel_rfl) (by kernel_rfl) fun K hK => ?_
  simp (maxSteps := 4000000) only [go_sem]
  refine ⟨_, .fn (hf := zf172 s.wind) (hd := rfl) (hr := .inl rfl), ?_⟩
  simp (maxSteps := 4000000) only [go_sem]
  refine ⟨_, .fn (hf := zf172 s.rain) (hd := rfl) (hr := .inl rfl), ?_⟩
  simp (maxSteps := 4000000) only [go_sem]
  refine ⟨_, .fn (hf := zf172 s.temp) (hd := rfl) (hr := .inl rfl), ?_⟩
  simp (maxSteps := 4000000) only [go_sem]
  refine ⟨by kernel_rfl, hK _ ?_⟩
  clear hK K
  repeat (first | refine z14 ?_ | refine z9 ?_ | refine z7 ?_ | (refine z5 fun K hK => ?_; simp (maxSteps := 4000000) only [go_sem]; refine hK _ ?_; clear hK K) | refine z13 ?_ | refine z15 ?_ | refine z10 ?_ | refine z8 ?_ | refine z6 rfl ?_ | refine z12 ?_ | refine z3 ?_ | refine z16 ?_ | refine z11 ?_ | refine z4 ?_)
  simp (maxSteps := 4000000) only [go_sem, pointH, Hour.row]
def insideB (s : Sky) (h : Hour) : Bool := withinB s.wind h.wind.lo h.wind.hi && (withinB s.rain h.rain.lo h.rain.hi && withinB s.temp h.temp.lo h.temp.hi)
theorem zf146 (s : Sky) (h : Hour) : Fn Tryz.prog 146 [.agg s.row, .agg h.row] (.bool (insideB s h)) := by
  have h1 := z291 s.wind h.wind.lo h.wind.hi
  have h2 := z291 s.rain h.rain.lo h.rain.hi
  have h3 := z291 s.temp h.temp.lo h.temp.hi
  obtain ⟨b1, e1⟩ : ∃ b, b = withinB s.wind h.wind.lo h.wind.hi := ⟨_, rfl⟩
  obtain ⟨b2, e2⟩ : ∃ b, b = withinB s.rain h.rain.lo h.rain.hi := ⟨_, rfl⟩
  obtain ⟨b3, e3⟩ : ∃ b, b = withinB s.temp h.temp.lo h.temp.hi := ⟨_, rfl⟩
  rw [insideB, ← e1, ← e2, ← e3]
  rw [← e1] at h1
  rw [← e2] at h2
  rw [← e3] at h3
  refine z21 36 Tryz.call146 Tryz.func146 rfl (by decide) fun J => ?_
  simp (maxSteps := 4000000) only [go_sem, St.start, Tryz.ntmps146, Tryz.results146, Hour.row, Sky.row]
  cases b1 <;> cases b2
  all_goals
    repeat (first | refine z14 ?_ | refine z9 ?_ | refine z7 ?_ | (refine z5 fun K hK => ?_; simp (maxSteps := 4000000) only [go_sem]; (repeat (first | (refine ⟨_, .lent (hf := h1) (hd := rfl) (hr := rfl), ?_⟩; simp (maxSteps := 4000000) only [go_sem]) | (refine ⟨_, .lent (hf := h2) (hd := rfl) (hr := rfl), ?_⟩; simp (maxSteps := 4000000) only [go_sem]) | (refine ⟨_, .lent (hf := h3) (hd := rfl) (hr := rfl), ?_⟩; simp (maxSteps := 4000000) only [go_sem]) | (refine ⟨_, .given (hf := h1) (hd := rfl) (ha := rfl), ?_⟩; simp (maxSteps := 4000000) only [go_sem]) | (refine ⟨_, .given (hf := h2) (hd := rfl) (ha := rfl), ?_⟩; simp (maxSteps := 4000000) only [go_sem]) | (refine ⟨_, .given (hf := h3) (hd := rfl) (ha := rfl), ?_⟩; simp (maxSteps := 4000000) only [go_sem]))); refine hK _ ?_; clear hK K) | refine z13 ?_ | refine z15 ?_ | refine z10 ?_ | refine z8 ?_ | refine z6 rfl ?_ | refine z12 ?_ | refine z3 ?_ | refine z16 ?_ | refine z11 ?_ | refine z4 ?_)
    simp (maxSteps := 4000000) only [go_sem]
theorem zf181 (xs : List Sight) (g : Nat) (caps : List DV) (q : Sight → Bool) (hq : ∀ s ∈ xs, Fn Tryz.prog g (.agg s.row :: caps) (.bool (q s))) (hl : xs.length < 2 ^ 62) : Fn Tryz.prog 181 [.sl (sightRows xs), .fn g caps] (.i (idxFrom q xs 0)) := by
  refine z21 19 Tryz.call181 Tryz.func181 rfl (by decide) fun J => ?_
  simp (maxSteps := 4000000) only [go_sem, St.start, Tryz.ntmps181, Tryz.results181]
  repeat (first | refine z14 ?_ | refine z9 ?_ | refine z7 ?_ | (refine z5 fun K hK => ?_; simp (maxSteps := 4000000) only [go_sem]; refine hK _ ?_; clear hK K) | refine z13 ?_ | refine z15 ?_ | refine z10 ?_ | refine z8 ?_ | refine z6 rfl ?_ | refine z12 ?_ | refine z3 ?_ | refine z16 ?_ | refine z11 ?_ | refine z4 ?_)
  refine z22 (fun (i : Nat) => [(8, .d (.i i))]) (fun _ => []) (fun i => i ≤ xs.length ∧ idxFrom q xs 0 = idxFrom q (xs.drop i) i) (fun i => xs.length - i) 0 ?_ ⟨Nat.zero_le _, rfl⟩ ?_
  · simp (maxSteps := 4000000) only [go_sem]
    refine z19 [] ?_ ?_ rfl rfl <;> simp [lessT, lessM, lessB, AV.less]
  · intro i ⟨hi, hq0⟩
    simp (maxSteps := 4000000) only [go_sem]
    repeat (first | refine z14 ?_ | refine z9 ?_ | refine z7 ?_ | (refine z5 fun K hK => ?_; simp (maxSteps := 4000000) only [go_sem]; refine hK _ ?_; clear hK K) | refine z13 ?_ | refine z15 ?_ | refine z10 ?_ | refine z8 ?_ | refine z6 rfl ?_ | refine z12 ?_ | refine z3 ?_ | refine z16 ?_ | refine z11 ?_ | refine z4 ?_)
    refine z20 rfl (fun hb => ?_) (fun hb => ?_)
    · have hlt : i < xs.length := by simpa using hb
      have hw : IntKind.i64.wrap ((i : Int) + 1) = ((i + 1 : Nat) : Int) := by rw [z23 (by omega)]; simp
      obtain ⟨s, hs⟩ : ∃ s, xs[i]? = some s := ⟨_, List.getElem?_eq_getElem hlt⟩
      rw [z30 hs, idxFrom] at hq0
      repeat (first | refine z14 ?_ | refine z9 ?_ | refine z7 ?_ | (refine z5 fun K hK => ?_; simp (maxSteps := 4000000) only [go_sem]; refine hK _ ?_; clear hK K) | refine z13 ?_ | refine z15 ?_ | refine z10 ?_ | refine z8 ?_ | refine z6 rfl ?_ | refine z12 ?_ | refine z3 ?_ | refine z16 ?_ | refine z11 ?_ | refine z4 ?_)
      refine z5 fun K hK => ?_
      simp (maxSteps := 4000000) only [go_sem, hs, List.getElem?_map, z64 hs, Sight.row, hw]
      refine ⟨_, .lent (hf := hq s (List.mem_of_getElem? hs)) (hd := z28 _ _ _ _ rfl) (hr := rfl), ?_⟩
      simp (maxSteps := 4000000) only [go_sem]
      refine hK _ ?_
      clear hK K
      refine z20 rfl (fun hc => ?_) (fun hc => ?_)
      · rw [hc, if_pos rfl] at hq0
        repeat (first | refine z14 ?_ | refine z9 ?_ | refine z7 ?_ | (refine z5 fun K hK => ?_; simp (maxSteps := 4000000) only [go_sem]; refine hK _ ?_; clear hK K) | refine z13 ?_ | refine z15 ?_ | refine z10 ?_ | refine z8 ?_ | refine z6 rfl ?_ | refine z12 ?_ | refine z3 ?_ | refine z16 ?_ | refine z11 ?_ | refine z4 ?_)
        simp (maxSteps := 4000000) only [go_sem, hq0]
      · rw [hc] at hq0
        repeat (first | refine z14 ?_ | refine z9 ?_ | refine z7 ?_ | (refine z5 fun K hK => ?_; simp (maxSteps := 4000000) only [go_sem, hw]; refine hK _ ?_; clear hK K) | refine z13 ?_ | refine z15 ?_ | refine z10 ?_ | refine z8 ?_ | refine z6 rfl ?_ | refine z12 ?_ | refine z3 ?_ | refine z16 ?_ | refine z11 ?_ | refine z4 ?_)
        refine ⟨rfl, i + 1, ?_, ⟨hlt, hq0⟩, by omega⟩
        refine z19 [] ?_ ?_ rfl rfl <;> simp [lessT, lessM, lessB, AV.less]
    · have he : i = xs.length := by (have : ¬ i < xs.length := by simpa using hb); omega
      subst he
      repeat (first | refine z14 ?_ | refine z9 ?_ | refine z7 ?_ | (refine z5 fun K hK => ?_; simp (maxSteps := 4000000) only [go_sem]; refine hK _ ?_; clear hK K) | refine z13 ?_ | refine z15 ?_ | refine z10 ?_ | refine z8 ?_ | refine z6 rfl ?_ | refine z12 ?_ | refine z3 ?_ | refine z16 ?_ | refine z11 ?_ | refine z4 ?_)
      simp (maxSteps := 4000000) only [go_sem, hq0, List.drop_length, idxFrom]
theorem zf170 (xs : List Sight) (g : Nat) (caps : List DV) (q : Sight → Bool) (hq : ∀ s ∈ xs, Fn Tryz.prog g (.agg s.row :: caps) (.bool (q s))) (hl : xs.length < 2 ^ 62) : Fn Tryz.prog 170 [.sl (sightRows xs), .fn g caps] (.bool (xs.any q)) := by
  refine z21 9 Tryz.call170 Tryz.func170 rfl (by decide) fun J => ?_
  simp (maxSteps := 4000000) only [go_sem, St.start, Tryz.ntmps170, Tryz.results170]
  repeat (first | refine z14 ?_ | refine z9 ?_ | refine z7 ?_ | (refine z5 fun K hK => ?_; simp (maxSteps := 4000000) only [go_sem]; (repeat (first | (refine ⟨_, .lent (hf := zf181 xs g caps q hq hl) (hd := rfl) (hr := rfl), ?_⟩; simp (maxSteps := 4000000) only [go_sem]) | (refine ⟨_, .given (hf := zf181 xs g caps q hq hl) (hd := rfl) (ha := rfl), ?_⟩; simp (maxSteps := 4000000) only [go_sem]))); refine hK _ ?_; clear hK K) | refine z13 ?_ | refine z15 ?_ | refine z10 ?_ | refine z8 ?_ | refine z6 rfl ?_ | refine z12 ?_ | refine z3 ?_ | refine z16 ?_ | refine z11 ?_ | refine z4 ?_)
  simp (maxSteps := 4000000) only [go_sem, z34]
theorem zf171 (s : Sight) (g : Nat) (caps : List DV) (b : Bool) (hq : Fn Tryz.prog g (.agg s.row :: caps) (.bool b)) : Fn Tryz.prog 171 [.agg s.row, .ptr [.fn g caps] 0] (.bool (!b)) := by
  refine z21 8 Tryz.call171 Tryz.func171 rfl (by decide) fun J => ?_
  simp (maxSteps := 4000000) only [go_sem, St.start, Tryz.ntmps171, Tryz.results171, Sight.row]
  repeat (first | refine z14 ?_ | refine z9 ?_ | refine z7 ?_ | (refine z5 fun K hK => ?_; simp (maxSteps := 4000000) only [go_sem]; refine hK _ ?_; clear hK K) | refine z13 ?_ | refine z15 ?_ | refine z10 ?_ | refine z8 ?_ | refine z6 rfl ?_ | refine z12 ?_ | refine z3 ?_ | refine z16 ?_ | refine z11 ?_ | refine z4 ?_)
  refine z5 fun K hK => ?_
  simp (maxSteps := 4000000) only [go_sem]
  refine ⟨_, .lent (hf := hq) (hd := z28 _ _ _ _ rfl) (hr := rfl), ?_⟩
  simp (maxSteps := 4000000) only [go_sem]
  refine hK _ ?_
  clear hK K
  repeat (first | refine z14 ?_ | refine z9 ?_ | refine z7 ?_ | (refine z5 fun K hK => ?_; simp (maxSteps := 4000000) only [go_sem]; refine hK _ ?_; clear hK K) | refine z13 ?_ | refine z15 ?_ | refine z10 ?_ | refine z8 ?_ | refine z6 rfl ?_ | refine z12 ?_ | refine z3 ?_ | refine z16 ?_ | refine z11 ?_ | refine z4 ?_)
  simp (maxSteps := 4000000) only [go_sem]
theorem zf144 (xs : List Sight) (g : Nat) (caps : List DV) (q : Sight → Bool) (hq : ∀ s ∈ xs, Fn Tryz.prog g (.agg s.row :: caps) (.bool (q s))) (hl : xs.length < 2 ^ 62) : Fn Tryz.prog 144 [.sl (sightRows xs), .fn g caps] (.bool (xs.all q)) := by
  have h := zf170 xs 171 [.ptr [.fn g caps] 0] (fun s => !q s) (fun s hs => zf171 s g caps (q s) (hq s hs)) hl
  refine z21 9 Tryz.call144 Tryz.func144 rfl (by decide) fun J => ?_
  simp (maxSteps := 4000000) only [go_sem, St.start, Tryz.ntmps144, Tryz.results144]
  repeat (first | refine z14 ?_ | refine z9 ?_ | refine z7 ?_ | (refine z5 fun K hK => ?_; simp (maxSteps := 4000000) only [go_sem]; (repeat (first | (refine ⟨_, .lent (hf := h) (hd := rfl) (hr := rfl), ?_⟩; simp (maxSteps := 4000000) only [go_sem]) | (refine ⟨_, .given (hf := h) (hd := rfl) (ha := rfl), ?_⟩; simp (maxSteps := 4000000) only [go_sem]))); refine hK _ ?_; clear hK K) | refine z13 ?_ | refine z15 ?_ | refine z10 ?_ | refine z8 ?_ | refine z6 rfl ?_ | refine z12 ?_ | refine z3 ?_ | refine z16 ?_ | refine z11 ?_ | refine z4 ?_)
  simp (maxSteps := 4000000) only [go_sem, z132]
theorem zf183 (xs : List Hour) (g : Nat) (caps : List DV) (q : Hour → Bool) (hq : ∀ s ∈ xs, Fn Tryz.prog g (.agg s.row :: caps) (.bool (q s))) (hl : xs.length < 2 ^ 62) : Fn Tryz.prog 183 [.sl (hourRows xs), .fn g caps] (.i (idxFrom q xs 0)) := by
  refine z21 19 Tryz.call183 Tryz.func183 rfl (by decide) fun J => ?_
  simp (maxSteps := 4000000) only [go_sem, St.start, Tryz.ntmps183, Tryz.results183]
  repeat (first | refine z14 ?_ | refine z9 ?_ | refine z7 ?_ | (refine z5 fun K hK => ?_; simp (maxSteps := 4000000) only [go_sem]; refine hK _ ?_; clear hK K) | refine z13 ?_ | refine z15 ?_ | refine z10 ?_ | refine z8 ?_ | refine z6 rfl ?_ | refine z12 ?_ | refine z3 ?_ | refine z16 ?_ | refine z11 ?_ | refine z4 ?_)
  refine z22 (fun (i : Nat) => [(8, .d (.i i))]) (fun _ => []) (fun i => i ≤ xs.length ∧ idxFrom q xs 0 = idxFrom q (xs.drop i) i) (fun i => xs.length - i) 0 ?_ ⟨Nat.zero_le _, rfl⟩ ?_
  · simp (maxSteps := 4000000) only [go_sem]
    refine z19 [] ?_ ?_ rfl rfl <;> simp [lessT, lessM, lessB, AV.less]
  · intro i ⟨hi, hq0⟩
    simp (maxSteps := 4000000) only [go_sem]
    repeat (first | refine z14 ?_ | refine z9 ?_ | refine z7 ?_ | (refine z5 fun K hK => ?_; simp (maxSteps := 4000000) only [go_sem]; refine hK _ ?_; clear hK K) | refine z13 ?_ | refine z15 ?_ | refine z10 ?_ | refine z8 ?_ | refine z6 rfl ?_ | refine z12 ?_ | refine z3 ?_ | refine z16 ?_ | refine z11 ?_ | refine z4 ?_)
    refine z20 rfl (fun hb => ?_) (fun hb => ?_)
    · have hlt : i < xs.length := by simpa using hb
      have hw : IntKind.i64.wrap ((i : Int) + 1) = ((i + 1 : Nat) : Int) := by rw [z23 (by omega)]; simp
      obtain ⟨s, hs⟩ : ∃ s, xs[i]? = some s := ⟨_, List.getElem?_eq_getElem hlt⟩
      rw [z30 hs, idxFrom] at hq0
      repeat (first | refine z14 ?_ | refine z9 ?_ | refine z7 ?_ | (refine z5 fun K hK => ?_; simp (maxSteps := 4000000) only [go_sem]; refine hK _ ?_; clear hK K) | refine z13 ?_ | refine z15 ?_ | refine z10 ?_ | refine z8 ?_ | refine z6 rfl ?_ | refine z12 ?_ | refine z3 ?_ | refine z16 ?_ | refine z11 ?_ | refine z4 ?_)
      refine z5 fun K hK => ?_
      simp (maxSteps := 4000000) only [go_sem, hs, List.getElem?_map, z44 hs, Hour.row, hw]
      refine ⟨_, .lent (hf := hq s (List.mem_of_getElem? hs)) (hd := z28 _ _ _ _ rfl) (hr := rfl), ?_⟩
      simp (maxSteps := 4000000) only [go_sem]
      refine hK _ ?_
      clear hK K
      refine z20 rfl (fun hc => ?_) (fun hc => ?_)
      · rw [hc, if_pos rfl] at hq0
        repeat (first | refine z14 ?_ | refine z9 ?_ | refine z7 ?_ | (refine z5 fun K hK => ?_; simp (maxSteps := 4000000) only [go_sem]; refine hK _ ?_; clear hK K) | refine z13 ?_ | refine z15 ?_ | refine z10 ?_ | refine z8 ?_ | refine z6 rfl ?_ | refine z12 ?_ | refine z3 ?_ | refine z16 ?_ | refine z11 ?_ | refine z4 ?_)
        simp (maxSteps := 4000000) only [go_sem, hq0]
      · rw [hc] at hq0
        repeat (first | refine z14 ?_ | refine z9 ?_ | refine z7 ?_ | (refine z5 fun K hK => ?_; simp (maxSteps := 4000000) only [go_sem, hw]; refine hK _ ?_; clear hK K) | refine z13 ?_ | refine z15 ?_ | refine z10 ?_ | refine z8 ?_ | refine z6 rfl ?_ | refine z12 ?_ | refine z3 ?_ | refine z16 ?_ | refine z11 ?_ | refine z4 ?_)
        refine ⟨rfl, i + 1, ?_, ⟨hlt, hq0⟩, by omega⟩
        refine z19 [] ?_ ?_ rfl rfl <;> simp [lessT, lessM, lessB, AV.less]
    · have he : i = xs.length := by (have : ¬ i < xs.length := by simpa using hb); omega
      subst he
      repeat (first | refine z14 ?_ | refine z9 ?_ | refine z7 ?_ | (refine z5 fun K hK => ?_; simp (maxSteps := 4000000) only [go_sem]; refine hK _ ?_; clear hK K) | refine z13 ?_ | refine z15 ?_ | refine z10 ?_ | refine z8 ?_ | refine z6 rfl ?_ | refine z12 ?_ | refine z3 ?_ | refine z16 ?_ | refine z11 ?_ | refine z4 ?_)
      simp (maxSteps := 4000000) only [go_sem, hq0, List.drop_length, idxFrom]
theorem zf177 (xs : List Hour) (g : Nat) (caps : List DV) (q : Hour → Bool) (hq : ∀ s ∈ xs, Fn Tryz.prog g (.agg s.row :: caps) (.bool (q s))) (hl : xs.length < 2 ^ 62) : Fn Tryz.prog 177 [.sl (hourRows xs), .fn g caps] (.bool (xs.any q)) := by
  refine z21 9 Tryz.call177 Tryz.func177 rfl (by decide) fun J => ?_
  simp (maxSteps := 4000000) only [go_sem, St.start, Tryz.ntmps177, Tryz.results177]
  repeat (first | refine z14 ?_ | refine z9 ?_ | refine z7 ?_ | (refine z5 fun K hK => ?_; simp (maxSteps := 4000000) only [go_sem]; (repeat (first | (refine ⟨_, .lent (hf := zf183 xs g caps q hq hl) (hd := rfl) (hr := rfl), ?_⟩; simp (maxSteps := 4000000) only [go_sem]) | (refine ⟨_, .given (hf := zf183 xs g caps q hq hl) (hd := rfl) (ha := rfl), ?_⟩; simp (maxSteps := 4000000) only [go_sem]))); refine hK _ ?_; clear hK K) | refine z13 ?_ | refine z15 ?_ | refine z10 ?_ | refine z8 ?_ | refine z6 rfl ?_ | refine z12 ?_ | refine z3 ?_ | refine z16 ?_ | refine z11 ?_ | refine z4 ?_)
  simp (maxSteps := 4000000) only [go_sem, z34]
theorem zf178 (s : Hour) (g : Nat) (caps : List DV) (b : Bool) (hq : Fn Tryz.prog g (.agg s.row :: caps) (.bool b)) : Fn Tryz.prog 178 [.agg s.row, .ptr [.fn g caps] 0] (.bool (!b)) := by
  refine z21 8 Tryz.call178 Tryz.func178 rfl (by decide) fun J => ?_
  simp (maxSteps := 4000000) only [go_sem, St.start, Tryz.ntmps178, Tryz.results178, Hour.row]
  repeat (first | refine z14 ?_ | refine z9 ?_ | refine z7 ?_ | (refine z5 fun K hK => ?_; simp (maxSteps := 4000000) only [go_sem]; refine hK _ ?_; clear hK K) | refine z13 ?_ | refine z15 ?_ | refine z10 ?_ | refine z8 ?_ | refine z6 rfl ?_ | refine z12 ?_ | refine z3 ?_ | refine z16 ?_ | refine z11 ?_ | refine z4 ?_)
  refine z5 fun K hK => ?_
  simp (maxSteps := 4000000) only [go_sem]
  refine ⟨_, .lent (hf := hq) (hd := z28 _ _ _ _ rfl) (hr := rfl), ?_⟩
  simp (maxSteps := 4000000) only [go_sem]
  refine hK _ ?_
  clear hK K
  repeat (first | refine z14 ?_ | refine z9 ?_ | refine z7 ?_ | (refine z5 fun K hK => ?_; simp (maxSteps := 4000000) only [go_sem]; refine hK _ ?_; clear hK K) | refine z13 ?_ | refine z15 ?_ | refine z10 ?_ | refine z8 ?_ | refine z6 rfl ?_ | refine z12 ?_ | refine z3 ?_ | refine z16 ?_ | refine z11 ?_ | refine z4 ?_)
  simp (maxSteps := 4000000) only [go_sem]
theorem zf167 (xs : List Hour) (g : Nat) (caps : List DV) (q : Hour → Bool) (hq : ∀ s ∈ xs, Fn Tryz.prog g (.agg s.row :: caps) (.bool (q s))) (hl : xs.length < 2 ^ 62) : Fn Tryz.prog 167 [.sl (hourRows xs), .fn g caps] (.bool (xs.all q)) := by
  have h := zf177 xs 178 [.ptr [.fn g caps] 0] (fun s => !q s) (fun s hs => zf178 s g caps (q s) (hq s hs)) hl
  refine z21 9 Tryz.call167 Tryz.func167 rfl (by decide) fun J => ?_
  simp (maxSteps := 4000000) only [go_sem, St.start, Tryz.ntmps167, Tryz.results167]
  repeat (first | refine z14 ?_ | refine z9 ?_ | refine z7 ?_ | (refine z5 fun K hK => ?_; simp (maxSteps := 4000000) only [go_sem]; (repeat (first | (refine ⟨_, .lent (hf := h) (hd := rfl) (hr := rfl), ?_⟩; simp (maxSteps := 4000000) only [go_sem]) | (refine ⟨_, .given (hf := h) (hd := rfl) (ha := rfl), ?_⟩; simp (maxSteps := 4000000) only [go_sem]))); refine hK _ ?_; clear hK K) | refine z13 ?_ | refine z15 ?_ | refine z10 ?_ | refine z8 ?_ | refine z6 rfl ?_ | refine z12 ?_ | refine z3 ?_ | refine z16 ?_ | refine z11 ?_ | refine z4 ?_)
  simp (maxSteps := 4000000) only [go_sem, z132]
theorem zf184 (xs : List (List Hour)) (g : Nat) (caps : List DV) (q : (List Hour) → Bool) (hq : ∀ s ∈ xs, Fn Tryz.prog g (.agg [.sl (hourRows s)] :: caps) (.bool (q s))) (hl : xs.length < 2 ^ 62) : Fn Tryz.prog 184 [.sl (scenRows xs), .fn g caps] (.i (idxFrom q xs 0)) := by
  refine z21 19 Tryz.call184 Tryz.func184 rfl (by decide) fun J => ?_
  simp (maxSteps := 4000000) only [go_sem, St.start, Tryz.ntmps184, Tryz.results184]
  repeat (first | refine z14 ?_ | refine z9 ?_ | refine z7 ?_ | (refine z5 fun K hK => ?_; simp (maxSteps := 4000000) only [go_sem]; refine hK _ ?_; clear hK K) | refine z13 ?_ | refine z15 ?_ | refine z10 ?_ | refine z8 ?_ | refine z6 rfl ?_ | refine z12 ?_ | refine z3 ?_ | refine z16 ?_ | refine z11 ?_ | refine z4 ?_)
  refine z22 (fun (i : Nat) => [(8, .d (.i i))]) (fun _ => []) (fun i => i ≤ xs.length ∧ idxFrom q xs 0 = idxFrom q (xs.drop i) i) (fun i => xs.length - i) 0 ?_ ⟨Nat.zero_le _, rfl⟩ ?_
  · simp (maxSteps := 4000000) only [go_sem]
    refine z19 [] ?_ ?_ rfl rfl <;> simp [lessT, lessM, lessB, AV.less]
  · intro i ⟨hi, hq0⟩
    simp (maxSteps := 4000000) only [go_sem]
    repeat (first | refine z14 ?_ | refine z9 ?_ | refine z7 ?_ | (refine z5 fun K hK => ?_; simp (maxSteps := 4000000) only [go_sem]; refine hK _ ?_; clear hK K) | refine z13 ?_ | refine z15 ?_ | refine z10 ?_ | refine z8 ?_ | refine z6 rfl ?_ | refine z12 ?_ | refine z3 ?_ | refine z16 ?_ | refine z11 ?_ | refine z4 ?_)
    refine z20 rfl (fun hb => ?_) (fun hb => ?_)
    · have hlt : i < xs.length := by simpa using hb
      have hw : IntKind.i64.wrap ((i : Int) + 1) = ((i + 1 : Nat) : Int) := by rw [z23 (by omega)]; simp
      obtain ⟨s, hs⟩ : ∃ s, xs[i]? = some s := ⟨_, List.getElem?_eq_getElem hlt⟩
      rw [z30 hs, idxFrom] at hq0
      repeat (first | refine z14 ?_ | refine z9 ?_ | refine z7 ?_ | (refine z5 fun K hK => ?_; simp (maxSteps := 4000000) only [go_sem]; refine hK _ ?_; clear hK K) | refine z13 ?_ | refine z15 ?_ | refine z10 ?_ | refine z8 ?_ | refine z6 rfl ?_ | refine z12 ?_ | refine z3 ?_ | refine z16 ?_ | refine z11 ?_ | refine z4 ?_)
      refine z5 fun K hK => ?_
      simp (maxSteps := 4000000) only [go_sem, hs, List.getElem?_map, z35 hs, hw]
      refine ⟨_, .lent (hf := hq s (List.mem_of_getElem? hs)) (hd := z28 _ _ _ _ rfl) (hr := rfl), ?_⟩
      simp (maxSteps := 4000000) only [go_sem]
      refine hK _ ?_
      clear hK K
      refine z20 rfl (fun hc => ?_) (fun hc => ?_)
      · rw [hc, if_pos rfl] at hq0
        repeat (first | refine z14 ?_ | refine z9 ?_ | refine z7 ?_ | (refine z5 fun K hK => ?_; simp (maxSteps := 4000000) only [go_sem]; refine hK _ ?_; clear hK K) | refine z13 ?_ | refine z15 ?_ | refine z10 ?_ | refine z8 ?_ | refine z6 rfl ?_ | refine z12 ?_ | refine z3 ?_ | refine z16 ?_ | refine z11 ?_ | refine z4 ?_)
        simp (maxSteps := 4000000) only [go_sem, hq0]
      · rw [hc] at hq0
        repeat (first | refine z14 ?_ | refine z9 ?_ | refine z7 ?_ | (refine z5 fun K hK => ?_; simp (maxSteps := 4000000) only [go_sem, hw]; refine hK _ ?_; clear hK K) | refine z13 ?_ | refine z15 ?_ | refine z10 ?_ | refine z8 ?_ | refine z6 rfl ?_ | refine z12 ?_ | refine z3 ?_ | refine z16 ?_ | refine z11 ?_ | refine z4 ?_)
        refine ⟨rfl, i + 1, ?_, ⟨hlt, hq0⟩, by omega⟩
        refine z19 [] ?_ ?_ rfl rfl <;> simp [lessT, lessM, lessB, AV.less]
    · have he : i = xs.length := by (have : ¬ i < xs.length := by simpa using hb); omega
      subst he
      repeat (first | refine z14 ?_ | refine z9 ?_ | refine z7 ?_ | (refine z5 fun K hK => ?_; simp (maxSteps := 4000000) only [go_sem]; refine hK _ ?_; clear hK K) | refine z13 ?_ | refine z15 ?_ | refine z10 ?_ | refine z8 ?_ | refine z6 rfl ?_ | refine z12 ?_ | refine z3 ?_ | refine z16 ?_ | refine z11 ?_ | refine z4 ?_)
      simp (maxSteps := 4000000) only [go_sem, hq0, List.drop_length, idxFrom]
theorem zf179 (xs : List (List Hour)) (g : Nat) (caps : List DV) (q : (List Hour) → Bool) (hq : ∀ s ∈ xs, Fn Tryz.prog g (.agg [.sl (hourRows s)] :: caps) (.bool (q s))) (hl : xs.length < 2 ^ 62) : Fn Tryz.prog 179 [.sl (scenRows xs), .fn g caps] (.bool (xs.any q)) := by
  refine z21 9 Tryz.call179 Tryz.func179 rfl (by decide) fun J => ?_
  simp (maxSteps := 4000000) only [go_sem, St.start, Tryz.ntmps179, Tryz.results179]
  repeat (first | refine z14 ?_ | refine z9 ?_ | refine z7 ?_ | (refine z5 fun K hK => ?_; simp (maxSteps := 4000000) only [go_sem]; (repeat (first | (refine ⟨_, .lent (hf := zf184 xs g caps q hq hl) (hd := rfl) (hr := rfl), ?_⟩; simp (maxSteps := 4000000) only [go_sem]) | (refine ⟨_, .given (hf := zf184 xs g caps q hq hl) (hd := rfl) (ha := rfl), ?_⟩; simp (maxSteps := 4000000) only [go_sem]))); refine hK _ ?_; clear hK K) | refine z13 ?_ | refine z15 ?_ | refine z10 ?_ | refine z8 ?_ | refine z6 rfl ?_ | refine z12 ?_ | refine z3 ?_ | refine z16 ?_ | refine z11 ?_ | refine z4 ?_)
  simp (maxSteps := 4000000) only [go_sem, z34]
theorem zf180 (s : (List Hour)) (g : Nat) (caps : List DV) (b : Bool) (hq : Fn Tryz.prog g (.agg [.sl (hourRows s)] :: caps) (.bool b)) : Fn Tryz.prog 180 [.agg [.sl (hourRows s)], .ptr [.fn g caps] 0] (.bool (!b)) := by
  refine z21 8 Tryz.call180 Tryz.func180 rfl (by decide) fun J => ?_
  simp (maxSteps := 4000000) only [go_sem, St.start, Tryz.ntmps180, Tryz.results180]
  repeat (first | refine z14 ?_ | refine z9 ?_ | refine z7 ?_ | (refine z5 fun K hK => ?_; simp (maxSteps := 4000000) only [go_sem]; refine hK _ ?_; clear hK K) | refine z13 ?_ | refine z15 ?_ | refine z10 ?_ | refine z8 ?_ | refine z6 rfl ?_ | refine z12 ?_ | refine z3 ?_ | refine z16 ?_ | refine z11 ?_ | refine z4 ?_)
  refine z5 fun K hK => ?_
  simp (maxSteps := 4000000) only [go_sem]
  refine ⟨_, .lent (hf := hq) (hd := z28 _ _ _ _ rfl) (hr := rfl), ?_⟩
  simp (maxSteps := 4000000) only [go_sem]
  refine hK _ ?_
  clear hK K
  repeat (first | refine z14 ?_ | refine z9 ?_ | refine z7 ?_ | (refine z5 fun K hK => ?_; simp (maxSteps := 4000000) only [go_sem]; refine hK _ ?_; clear hK K) | refine z13 ?_ | refine z15 ?_ | refine z10 ?_ | refine z8 ?_ | refine z6 rfl ?_ | refine z12 ?_ | refine z3 ?_ | refine z16 ?_ | refine z11 ?_ | refine z4 ?_)
  simp (maxSteps := 4000000) only [go_sem]
theorem zf169 (xs : List (List Hour)) (g : Nat) (caps : List DV) (q : (List Hour) → Bool) (hq : ∀ s ∈ xs, Fn Tryz.prog g (.agg [.sl (hourRows s)] :: caps) (.bool (q s))) (hl : xs.length < 2 ^ 62) : Fn Tryz.prog 169 [.sl (scenRows xs), .fn g caps] (.bool (xs.all q)) := by
  have h := zf179 xs 180 [.ptr [.fn g caps] 0] (fun s => !q s) (fun s hs => zf180 s g caps (q s) (hq s hs)) hl
  refine z21 9 Tryz.call169 Tryz.func169 rfl (by decide) fun J => ?_
  simp (maxSteps := 4000000) only [go_sem, St.start, Tryz.ntmps169, Tryz.results169]
  repeat (first | refine z14 ?_ | refine z9 ?_ | refine z7 ?_ | (refine z5 fun K hK => ?_; simp (maxSteps := 4000000) only [go_sem]; (repeat (first | (refine ⟨_, .lent (hf := h) (hd := rfl) (hr := rfl), ?_⟩; simp (maxSteps := 4000000) only [go_sem]) | (refine ⟨_, .given (hf := h) (hd := rfl) (ha := rfl), ?_⟩; simp (maxSteps := 4000000) only [go_sem]))); refine hK _ ?_; clear hK K) | refine z13 ?_ | refine z15 ?_ | refine z10 ?_ | refine z8 ?_ | refine z6 rfl ?_ | refine z12 ?_ | refine z3 ?_ | refine z16 ?_ | refine z11 ?_ | refine z4 ?_)
  simp (maxSteps := 4000000) only [go_sem, z132]
end Go.Ab
namespace Go.Ab
open Go.RowKit Go.Proofs
set_option maxHeartbeats 4000000
set_option maxRecDepth 20000
attribute [local irreducible] WalkL Walk
structure ForeSmall (F : List (List Hour)) : Prop where
  scen : F.length < 2 ^ 30
  hours : ∀ l ∈ F, l.length < 2 ^ 30
def scenB (h0 x : List Hour) : Bool := withinB x.length 1 48 && (((x.length : Int) == (h0.length : Int)) && x.all hourB)
theorem zf166 (F : List (List Hour)) (h0 x : List Hour) (h : F[0]? = some h0) (hx : x.length < 2 ^ 30) : Fn Tryz.prog 166 [.agg [.sl (hourRows x)], .ptr [.sl (scenRows F)] 0] (.bool (scenB h0 x)) := by
  have g0 := z35 h
  refine z21 25 Tryz.call166 Tryz.func166 rfl (by decide) fun J => ?_
  simp (maxSteps := 4000000) only [go_sem, St.start, Tryz.ntmps166, Tryz.results166]
  repeat (first | refine z14 ?_ | refine z9 ?_ | refine z7 ?_ | (refine z5 fun K hK => ?_; simp (maxSteps := 4000000) only [go_sem]; refine hK _ ?_; clear hK K) | refine z13 ?_ | refine z15 ?_ | refine z10 ?_ | refine z8 ?_ | refine z6 rfl ?_ | refine z12 ?_ | refine z3 ?_ | refine z16 ?_ | refine z11 ?_ | refine z4 ?_)
  refine z40 [(3, .d (.bool (scenB h0 x)))] [] ?_ ?_
  · refine z24 (by kernel_rfl) (by kernel_rfl) fun K hK => ?_
    simp (maxSteps := 4000000) only [go_sem, g0]
    refine ⟨_, .fn (hf := z291 x.length 1 48) (hd := rfl) (hr := .inl rfl), ?_⟩
    simp (maxSteps := 4000000) only [go_sem, g0]
    by_cases ho0 : (withinB x.length 1 48) = true
    · simp (maxSteps := 4000000) only [go_sem, g0, ho0]
      by_cases ho1 : ((x.length : Int) == (h0.length : Int)) = true
      · simp (maxSteps := 4000000) only [go_sem, g0, ho0, ho1]
        refine ⟨_, .fn (hf := zf167 x 168 [] hourB (fun s _ => zf168 s) (by omega)) (hd := rfl) (hr := .inl rfl), ?_⟩
        simp (maxSteps := 4000000) only [go_sem, g0, ho0, ho1]
        refine ⟨by kernel_rfl, hK _ ?_⟩
        clear hK K
        refine z13 ?_
        refine z4 ?_
        refine ⟨rfl, ?_⟩
        rw [show (scenB h0 x) = (x.all hourB) from by simp [scenB, ho0, ho1]]
        simp (maxSteps := 4000000) only [go_sem]
        refine z19 [] ?_ ?_ rfl rfl <;> simp [lessT, lessM, lessB, AV.less]
      · simp (maxSteps := 4000000) only [go_sem, g0, ho0, ho1]
        refine ⟨by kernel_rfl, hK _ ?_⟩
        clear hK K
        refine z13 ?_
        refine z4 ?_
        refine ⟨rfl, ?_⟩
        rw [show (scenB h0 x) = (false) from by simp [scenB, ho0, ho1]]
        simp (maxSteps := 4000000) only [go_sem]
        refine z19 [] ?_ ?_ rfl rfl <;> simp [lessT, lessM, lessB, AV.less]
    · simp (maxSteps := 4000000) only [go_sem, g0, ho0]
      refine ⟨by kernel_rfl, hK _ ?_⟩
      clear hK K
      refine z13 ?_
      refine z4 ?_
      refine ⟨rfl, ?_⟩
      rw [show (scenB h0 x) = (false) from by simp [scenB, ho0]]
      simp (maxSteps := 4000000) only [go_sem]
      refine z19 [] ?_ ?_ rfl rfl <;> simp [lessT, lessM, lessB, AV.less]
  simp (maxSteps := 4000000) only [go_sem]
  repeat (first | refine z14 ?_ | refine z9 ?_ | refine z7 ?_ | (refine z5 fun K hK => ?_; simp (maxSteps := 4000000) only [go_sem]; refine hK _ ?_; clear hK K) | refine z13 ?_ | refine z15 ?_ | refine z10 ?_ | refine z8 ?_ | refine z6 rfl ?_ | refine z12 ?_ | refine z3 ?_ | refine z16 ?_ | refine z11 ?_ | refine z4 ?_)
  simp (maxSteps := 4000000) only [go_sem]
def hd0 (F : List (List Hour)) : List Hour := F.headD []
def badF (F : List (List Hour)) : Bool := !withinB F.length 1 6 || !(F.all (scenB (hd0 F)))
def foreF (F : List (List Hour)) : Int := if badF F then 50 else 0
theorem z72 {F : List (List Hour)} (h : 0 < F.length) : F[0]? = some (hd0 F) := by
  cases F with
  | nil => simp at h
  | cons a l => rfl
theorem zf141 (F : List (List Hour)) (hs : ForeSmall F) : Fn Tryz.prog 141 [.agg [.sl (scenRows F)]] (.i (foreF F)) := by
  have h1 := hs.scen
  have h116 : withinB F.length 1 6 = true → Fn Tryz.prog 169 [.sl (scenRows F), .fn 166 [.ptr [.sl (scenRows F)] 0]] (.bool (F.all (scenB (hd0 F)))) := fun h =>
    zf169 F 166 [.ptr [.sl (scenRows F)] 0] (scenB (hd0 F)) (fun s hm => zf166 F (hd0 F) s (z72 (by have := z27.1 h; omega)) (hs.hours s hm)) (by omega)
  refine z21 17 Tryz.call141 Tryz.func141 rfl (by decide) fun J => ?_
  simp (maxSteps := 4000000) only [go_sem, St.start, Tryz.ntmps141, Tryz.results141]
  repeat (first | refine z14 ?_ | refine z9 ?_ | refine z7 ?_ | (refine z5 fun K hK => ?_; simp (maxSteps := 4000000) only [go_sem]; refine hK _ ?_; clear hK K) | refine z13 ?_ | refine z15 ?_ | refine z10 ?_ | refine z8 ?_ | refine z6 rfl ?_ | refine z12 ?_ | refine z3 ?_ | refine z16 ?_ | refine z11 ?_ | refine z4 ?_)
  refine z40 [(16, .d (.bool (badF F)))] [] ?_ ?_
  · refine z5 fun K hK => ?_
    simp (maxSteps := 4000000) only [go_sem]
    refine ⟨_, .lent (hf := z291 F.length 1 6) (hd := rfl) (hr := rfl), ?_⟩
    simp (maxSteps := 4000000) only [go_sem]
    by_cases ho0 : (!withinB F.length 1 6) = true
    · simp (maxSteps := 4000000) only [go_sem, ho0]
      refine hK _ ?_
      clear hK K
      refine z13 ?_
      refine z4 ?_
      refine ⟨rfl, ?_⟩
      rw [show (badF F) = (true) from by simp [badF, ho0]]
      simp (maxSteps := 4000000) only [go_sem]
      refine z19 [] ?_ ?_ rfl rfl <;> simp [lessT, lessM, lessB, AV.less]
    · simp (maxSteps := 4000000) only [go_sem, ho0]
      refine ⟨_, .lent (hf := h116 (by simpa using ho0)) (hd := rfl) (hr := rfl), ?_⟩
      simp (maxSteps := 4000000) only [go_sem, ho0]
      refine hK _ ?_
      clear hK K
      refine z13 ?_
      refine z4 ?_
      refine ⟨rfl, ?_⟩
      rw [show (badF F) = (!(F.all (scenB (hd0 F)))) from by simp [badF, ho0]]
      simp (maxSteps := 4000000) only [go_sem]
      refine z19 [] ?_ ?_ rfl rfl <;> simp [lessT, lessM, lessB, AV.less]
  · simp (maxSteps := 4000000) only [go_sem]
    repeat (first | refine z14 ?_ | refine z9 ?_ | refine z7 ?_ | (refine z5 fun K hK => ?_; simp (maxSteps := 4000000) only [go_sem]; refine hK _ ?_; clear hK K) | refine z13 ?_ | refine z15 ?_ | refine z10 ?_ | refine z8 ?_ | refine z6 rfl ?_ | refine z12 ?_ | refine z3 ?_ | refine z16 ?_ | refine z11 ?_ | refine z4 ?_)
    refine z20 rfl (fun hc => ?_) (fun hc => ?_)
    · repeat (first | refine z14 ?_ | refine z9 ?_ | refine z7 ?_ | (refine z5 fun K hK => ?_; simp (maxSteps := 4000000) only [go_sem]; refine hK _ ?_; clear hK K) | refine z13 ?_ | refine z15 ?_ | refine z10 ?_ | refine z8 ?_ | refine z6 rfl ?_ | refine z12 ?_ | refine z3 ?_ | refine z16 ?_ | refine z11 ?_ | refine z4 ?_)
      simp (maxSteps := 4000000) only [go_sem, foreF, hc]
    · repeat (first | refine z14 ?_ | refine z9 ?_ | refine z7 ?_ | (refine z5 fun K hK => ?_; simp (maxSteps := 4000000) only [go_sem]; refine hK _ ?_; clear hK K) | refine z13 ?_ | refine z15 ?_ | refine z10 ?_ | refine z8 ?_ | refine z6 rfl ?_ | refine z12 ?_ | refine z3 ?_ | refine z16 ?_ | refine z11 ?_ | refine z4 ?_)
      simp (maxSteps := 4000000) only [go_sem, foreF, hc]
def sightOk (H : Int) (s : Sight) : Bool := withinB s.hour 0 (H - 1) && hourB (pointH s.sky)
def sightsB (H : Int) (l : List Sight) : Bool := l.all (sightOk H) && (decide ((l.map (·.hour)).Nodup) && decide ((l.length : Int) ≤ 20))
def entsFrom : List Sight → Nat → List (MK × DV × Nat)
  | [], _ => []
  | s :: l, j => (.i s.hour, .i 1, j) :: entsFrom l (j + 1)
theorem ents_none {k : Int} : ∀ (l : List Sight) (j i : Nat), k ∉ l.map (·.hour) → findE (entsFrom l j) (.i k) i = none
  | [], _, _, _ => rfl
  | s :: l, j, i, h => by
    simp only [List.map_cons, List.mem_cons, not_or] at h
    rw [entsFrom, findE, if_neg (fun e => h.1 (MK.i.inj e))]
    exact ents_none l (j + 1) (i + 1) h.2
theorem ents_some {k : Int} : ∀ (l : List Sight) (j i : Nat), k ∈ l.map (·.hour) → ∃ q b, findE (entsFrom l j) (.i k) i = some (i + q, .i 1, b)
  | [], _, _, h => by simp at h
  | s :: l, j, i, h => by
    rw [entsFrom, findE]
    by_cases hk : k = s.hour
    · exact ⟨0, j, by rw [if_pos (by rw [hk])]; rfl⟩
    · rw [if_neg (fun e => hk (MK.i.inj e))]
      obtain ⟨q, b, hq⟩ := ents_some l (j + 1) (i + 1) (by simpa [hk] using h)
      exact ⟨q + 1, b, by rw [hq]; congr 2; omega⟩
theorem findE_set {k : MK} {d v : DV} {b : Nat} : ∀ (es : List (MK × DV × Nat)) (i q : Nat), findE es k i = some (i + q, v, b) → findE (es.set q (k, d, b)) k i = some (i + q, d, b)
  | [], _, _, h => by cases h
  | e :: es, i, q, h => by
    rw [findE] at h
    by_cases hk : k = e.1
    · rw [if_pos hk] at h
      have : q = 0 := by
        have := congrArg (fun o => o.map (·.1)) h
        simp at this
        omega
      subst this
      rw [List.set_cons_zero, findE, if_pos rfl]
      rfl
    · rw [if_neg hk] at h
      cases q with
      | zero =>
        exfalso
        have : ∀ (es : List (MK × DV × Nat)) (i p : Nat) (r : DV × Nat), findE es k i = some (p, r) → i ≤ p := by
          intro es
          induction es with
          | nil => intro i p r h; cases h
          | cons e es ih =>
            intro i p r h
            rw [findE] at h
            split at h
            · cases h; exact Nat.le_refl _
            · have := ih (i + 1) p r h; omega
        have := this es (i + 1) (i + 0) _ h
        omega
      | succ q =>
        rw [List.set_cons_succ, findE, if_neg hk, show i + (q + 1) = (i + 1) + q by omega]
        exact findE_set es (i + 1) q (by rw [h]; congr 2; omega)
theorem findE_push {k : MK} {d : DV} {b : Nat} : ∀ (es : List (MK × DV × Nat)) (i : Nat), findE es k i = none → findE (es ++ [(k, d, b)]) k i = some (i + es.length, d, b)
  | [], i, _ => by simp [findE]
  | e :: es, i, h => by
    rw [findE] at h
    split at h
    · cases h
    · rename_i hk
      rw [List.cons_append, findE, if_neg hk, findE_push es (i + 1) h]
      congr 2
      simp; omega
theorem ents_push (s : Sight) : ∀ (l : List Sight) (j : Nat), entsFrom (l ++ [s]) j = entsFrom l j ++ [(.i s.hour, .i 1, j + l.length)]
  | [], j => by simp [entsFrom]
  | x :: l, j => by simp [entsFrom, ents_push s l]; omega
theorem zf142 (F : List (List Hour)) (h0 : List Hour) (seen : List Sight) (h : F[0]? = some h0) (hl : h0.length < 2 ^ 30) (hsl : seen.length < 2 ^ 30) :
    Fn Tryz.prog 142 [.agg [.sl (scenRows F)], .sl (sightRows seen)] (.bool (sightsB h0.length seen)) := by
  have g0 := z35 h
  have hw0 : IntKind.i64.wrap ((h0.length : Int) - 1) = (h0.length : Int) - 1 := z23 (by omega)
  have w1 : IntKind.i64.wrap (0 + 1) = 1 := by decide
  have w2 : IntKind.i64.wrap (1 + 1) = 2 := by decide
  have d21 : decide ((2 : Int) > 1) = true := rfl
  have d11 : decide ((1 : Int) > 1) = false := rfl
  refine z21 49 Tryz.call142 Tryz.func142 rfl (by decide) fun J => ?_
  simp (maxSteps := 4000000) only [go_sem, St.start, Tryz.ntmps142, Tryz.results142]
  repeat (first | refine z14 ?_ | refine z9 ?_ | refine z7 ?_ | (refine z5 fun K hK => ?_; simp (maxSteps := 4000000) only [go_sem]; refine hK _ ?_; clear hK K) | refine z13 ?_ | refine z15 ?_ | refine z10 ?_ | refine z8 ?_ | refine z6 rfl ?_ | refine z12 ?_ | refine z3 ?_ | refine z16 ?_ | refine z11 ?_ | refine z4 ?_)
  refine z22 (fun (i : Nat) => [(11, .d (.i i))]) (fun i => [(8, some (.mp none (entsFrom (seen.take i) 0) i))]) (fun i => i ≤ seen.length ∧ (seen.take i).all (sightOk h0.length) = true ∧ ((seen.take i).map (·.hour)).Nodup) (fun i => seen.length - i) 0 ?_ ⟨Nat.zero_le _, rfl, by simp⟩ ?_
  · simp (maxSteps := 4000000) only [go_sem]
    refine z19 [] ?_ ?_ rfl rfl <;> simp [lessT, lessM, lessB, AV.less]
    first | done | rfl
  · intro i ⟨hi, hall, hnd⟩
    simp (maxSteps := 4000000) only [go_sem]
    repeat (first | refine z14 ?_ | refine z9 ?_ | refine z7 ?_ | (refine z5 fun K hK => ?_; simp (maxSteps := 4000000) only [go_sem]; refine hK _ ?_; clear hK K) | refine z13 ?_ | refine z15 ?_ | refine z10 ?_ | refine z8 ?_ | refine z6 rfl ?_ | refine z12 ?_ | refine z3 ?_ | refine z16 ?_ | refine z11 ?_ | refine z4 ?_)
    refine z20 rfl (fun hb => ?_) (fun hb => ?_)
    · have hlt : i < seen.length := by simpa using hb
      have hw : IntKind.i64.wrap ((i : Int) + 1) = ((i + 1 : Nat) : Int) := by rw [z23 (by omega)]; simp
      obtain ⟨s, hs⟩ : ∃ s, seen[i]? = some s := ⟨_, List.getElem?_eq_getElem hlt⟩
      have g1 := z64 hs
      have h113 := z291 s.hour 0 ((h0.length : Int) - 1)
      have h111 := zf147 s.sky
      have h115 := zf168 (pointH s.sky)
      rw [Sky.row] at h111
      have htk : seen.take (i + 1) = seen.take i ++ [s] := by rw [List.take_add_one, hs]; rfl
      obtain ⟨b1, e1⟩ : ∃ b, b = withinB s.hour 0 ((h0.length : Int) - 1) := ⟨_, rfl⟩
      obtain ⟨b3, e3⟩ : ∃ b, b = hourB (pointH s.sky) := ⟨_, rfl⟩
      have hok : sightOk h0.length s = (b1 && b3) := by rw [sightOk, e1, e3]
      rw [← e1] at h113
      rw [← e3] at h115
      have hbad : sightOk h0.length s = false → sightsB h0.length seen = false := fun hf => by rw [sightsB, z158 hs hf]; rfl
      by_cases hk : s.hour ∈ (seen.take i).map (·.hour)
      · obtain ⟨q, b, hq⟩ := ents_some (seen.take i) 0 0 hk
        have hq2 := findE_set (d := .i 2) _ 0 q hq
        rw [Nat.zero_add] at hq hq2
        have hF : sightsB h0.length seen = false := by
          have : ¬ (seen.map (·.hour)).Nodup := fun hn => by
            have h3 : (((seen.take (i + 1)).map (·.hour))).Nodup := (List.Sublist.map _ (List.take_sublist _ _)).nodup hn
            rw [htk, List.map_append, List.nodup_append] at h3
            exact h3.2.2 _ hk _ (by simp) rfl
          simp [sightsB, this]
        repeat (first | refine z14 ?_ | refine z9 ?_ | refine z7 ?_ | (refine z5 fun K hK => ?_; simp (maxSteps := 4000000) only [go_sem, g1, Sight.row, hq, w2]; refine hK _ ?_; clear hK K) | refine z13 ?_ | refine z15 ?_ | refine z10 ?_ | refine z8 ?_ | refine z6 rfl ?_ | refine z12 ?_ | refine z3 ?_ | refine z16 ?_ | refine z11 ?_ | refine z4 ?_)
        cases b1
        all_goals
          repeat (first | refine z14 ?_ | refine z9 ?_ | refine z7 ?_ | (refine z5 fun K hK => ?_; simp (maxSteps := 4000000) only [go_sem, g1, g0, Sight.row, hq2, hw0, d21, d11]; (repeat (first | (refine ⟨_, .lent (hf := h113) (hd := rfl) (hr := rfl), ?_⟩; simp (maxSteps := 4000000) only [go_sem, g1, g0, Sight.row, hq2, hw0, d21, d11]) | (refine ⟨_, .given (hf := h113) (hd := rfl) (ha := rfl), ?_⟩; simp (maxSteps := 4000000) only [go_sem, g1, g0, Sight.row, hq2, hw0, d21, d11]))); refine hK _ ?_; clear hK K) | (refine z24 (by kernel_rfl) (by kernel_rfl) fun K hK => ?_; simp (maxSteps := 4000000) only [go_sem, g1, g0, Sight.row, hq2, hw0, d21, d11]; (repeat (first | (refine ⟨_, .fn (hf := h113) (hd := rfl) (hr := .inl rfl), ?_⟩; simp (maxSteps := 4000000) only [go_sem, g1, g0, Sight.row, hq2, hw0, d21, d11]))); refine ⟨by kernel_rfl, hK _ ?_⟩; clear hK K) | refine z13 ?_ | refine z15 ?_ | refine z10 ?_ | refine z8 ?_ | refine z6 rfl ?_ | refine z12 ?_ | refine z3 ?_ | refine z16 ?_ | refine z11 ?_ | refine z4 ?_)
          refine z18 rfl ?_
          repeat (first | refine z14 ?_ | refine z9 ?_ | refine z7 ?_ | (refine z5 fun K hK => ?_; simp (maxSteps := 4000000) only [go_sem]; refine hK _ ?_; clear hK K) | refine z13 ?_ | refine z15 ?_ | refine z10 ?_ | refine z8 ?_ | refine z6 rfl ?_ | refine z12 ?_ | refine z3 ?_ | refine z16 ?_ | refine z11 ?_ | refine z4 ?_)
          simp (maxSteps := 4000000) only [go_sem, hF]
      · have hq := ents_none (seen.take i) 0 0 hk
        have hq2 := findE_push (d := .i 1) (b := i) _ 0 hq
        rw [Nat.zero_add] at hq2
        have hp := ents_push s (seen.take i) 0
        have htl : (seen.take i).length = i := by simp; omega
        rw [← htk, htl, Nat.zero_add] at hp
        repeat (first | refine z14 ?_ | refine z9 ?_ | refine z7 ?_ | (refine z5 fun K hK => ?_; simp (maxSteps := 4000000) only [go_sem, g1, Sight.row, hq, w1]; refine hK _ ?_; clear hK K) | refine z13 ?_ | refine z15 ?_ | refine z10 ?_ | refine z8 ?_ | refine z6 rfl ?_ | refine z12 ?_ | refine z3 ?_ | refine z16 ?_ | refine z11 ?_ | refine z4 ?_)
        cases b1
        · repeat (first | refine z14 ?_ | refine z9 ?_ | refine z7 ?_ | (refine z5 fun K hK => ?_; simp (maxSteps := 4000000) only [go_sem, g1, g0, Sight.row, hq2, hw0, d21, d11]; (repeat (first | (refine ⟨_, .lent (hf := h113) (hd := rfl) (hr := rfl), ?_⟩; simp (maxSteps := 4000000) only [go_sem, g1, g0, Sight.row, hq2, hw0, d21, d11]) | (refine ⟨_, .given (hf := h113) (hd := rfl) (ha := rfl), ?_⟩; simp (maxSteps := 4000000) only [go_sem, g1, g0, Sight.row, hq2, hw0, d21, d11]))); refine hK _ ?_; clear hK K) | (refine z24 (by kernel_rfl) (by kernel_rfl) fun K hK => ?_; simp (maxSteps := 4000000) only [go_sem, g1, g0, Sight.row, hq2, hw0, d21, d11]; (repeat (first | (refine ⟨_, .fn (hf := h113) (hd := rfl) (hr := .inl rfl), ?_⟩; simp (maxSteps := 4000000) only [go_sem, g1, g0, Sight.row, hq2, hw0, d21, d11]))); refine ⟨by kernel_rfl, hK _ ?_⟩; clear hK K) | refine z13 ?_ | refine z15 ?_ | refine z10 ?_ | refine z8 ?_ | refine z6 rfl ?_ | refine z12 ?_ | refine z3 ?_ | refine z16 ?_ | refine z11 ?_ | refine z4 ?_)
          refine z18 rfl ?_
          repeat (first | refine z14 ?_ | refine z9 ?_ | refine z7 ?_ | (refine z5 fun K hK => ?_; simp (maxSteps := 4000000) only [go_sem]; refine hK _ ?_; clear hK K) | refine z13 ?_ | refine z15 ?_ | refine z10 ?_ | refine z8 ?_ | refine z6 rfl ?_ | refine z12 ?_ | refine z3 ?_ | refine z16 ?_ | refine z11 ?_ | refine z4 ?_)
          simp (maxSteps := 4000000) only [go_sem, hbad (by rw [hok]; rfl)]
        · cases b3
          · repeat (first | refine z14 ?_ | refine z9 ?_ | refine z7 ?_ | (refine z5 fun K hK => ?_; simp (maxSteps := 4000000) only [go_sem, g1, g0, Sight.row, hq2, hw0, d21, d11, pointH]; (repeat (first | (refine ⟨_, .lent (hf := h113) (hd := rfl) (hr := rfl), ?_⟩; simp (maxSteps := 4000000) only [go_sem, g1, g0, Sight.row, hq2, hw0, d21, d11, pointH]) | (refine ⟨_, .lent (hf := h111) (hd := rfl) (hr := rfl), ?_⟩; simp (maxSteps := 4000000) only [go_sem, g1, g0, Sight.row, hq2, hw0, d21, d11, pointH]) | (refine ⟨_, .lent (hf := h115) (hd := rfl) (hr := rfl), ?_⟩; simp (maxSteps := 4000000) only [go_sem, g1, g0, Sight.row, hq2, hw0, d21, d11, pointH]) | (refine ⟨_, .given (hf := h113) (hd := rfl) (ha := rfl), ?_⟩; simp (maxSteps := 4000000) only [go_sem, g1, g0, Sight.row, hq2, hw0, d21, d11, pointH]) | (refine ⟨_, .given (hf := h111) (hd := rfl) (ha := rfl), ?_⟩; simp (maxSteps := 4000000) only [go_sem, g1, g0, Sight.row, hq2, hw0, d21, d11, pointH]) | (refine ⟨_, .given (hf := h115) (hd := rfl) (ha := rfl), ?_⟩; simp (maxSteps := 4000000) only [go_sem, g1, g0, Sight.row, hq2, hw0, d21, d11, pointH]))); refine hK _ ?_; clear hK K) | (refine z24 (by kernel_rfl) (by kernel_rfl) fun K hK => ?_; simp (maxSteps := 4000000) only [go_sem, g1, g0, Sight.row, hq2, hw0, d21, d11, pointH]; (repeat (first | (refine ⟨_, .fn (hf := h113) (hd := rfl) (hr := .inl rfl), ?_⟩; simp (maxSteps := 4000000) only [go_sem, g1, g0, Sight.row, hq2, hw0, d21, d11, pointH]) | (refine ⟨_, .fn (hf := h111) (hd := rfl) (hr := .inl rfl), ?_⟩; simp (maxSteps := 4000000) only [go_sem, g1, g0, Sight.row, hq2, hw0, d21, d11, pointH]) | (refine ⟨_, .fn (hf := h115) (hd := rfl) (hr := .inl rfl), ?_⟩; simp (maxSteps := 4000000) only [go_sem, g1, g0, Sight.row, hq2, hw0, d21, d11, pointH]))); refine ⟨by kernel_rfl, hK _ ?_⟩; clear hK K) | refine z13 ?_ | refine z15 ?_ | refine z10 ?_ | refine z8 ?_ | refine z6 rfl ?_ | refine z12 ?_ | refine z3 ?_ | refine z16 ?_ | refine z11 ?_ | refine z4 ?_)
            refine z18 rfl ?_
            repeat (first | refine z14 ?_ | refine z9 ?_ | refine z7 ?_ | (refine z5 fun K hK => ?_; simp (maxSteps := 4000000) only [go_sem]; refine hK _ ?_; clear hK K) | refine z13 ?_ | refine z15 ?_ | refine z10 ?_ | refine z8 ?_ | refine z6 rfl ?_ | refine z12 ?_ | refine z3 ?_ | refine z16 ?_ | refine z11 ?_ | refine z4 ?_)
            simp (maxSteps := 4000000) only [go_sem, hbad (by rw [hok]; rfl)]
          · repeat (first | refine z14 ?_ | refine z9 ?_ | refine z7 ?_ | (refine z5 fun K hK => ?_; simp (maxSteps := 4000000) only [go_sem, g1, g0, Sight.row, hq2, hw0, d21, d11, pointH]; (repeat (first | (refine ⟨_, .lent (hf := h113) (hd := rfl) (hr := rfl), ?_⟩; simp (maxSteps := 4000000) only [go_sem, g1, g0, Sight.row, hq2, hw0, d21, d11, pointH]) | (refine ⟨_, .lent (hf := h111) (hd := rfl) (hr := rfl), ?_⟩; simp (maxSteps := 4000000) only [go_sem, g1, g0, Sight.row, hq2, hw0, d21, d11, pointH]) | (refine ⟨_, .lent (hf := h115) (hd := rfl) (hr := rfl), ?_⟩; simp (maxSteps := 4000000) only [go_sem, g1, g0, Sight.row, hq2, hw0, d21, d11, pointH]) | (refine ⟨_, .given (hf := h113) (hd := rfl) (ha := rfl), ?_⟩; simp (maxSteps := 4000000) only [go_sem, g1, g0, Sight.row, hq2, hw0, d21, d11, pointH]) | (refine ⟨_, .given (hf := h111) (hd := rfl) (ha := rfl), ?_⟩; simp (maxSteps := 4000000) only [go_sem, g1, g0, Sight.row, hq2, hw0, d21, d11, pointH]) | (refine ⟨_, .given (hf := h115) (hd := rfl) (ha := rfl), ?_⟩; simp (maxSteps := 4000000) only [go_sem, g1, g0, Sight.row, hq2, hw0, d21, d11, pointH]))); refine hK _ ?_; clear hK K) | (refine z24 (by kernel_rfl) (by kernel_rfl) fun K hK => ?_; simp (maxSteps := 4000000) only [go_sem, g1, g0, Sight.row, hq2, hw0, d21, d11, pointH]; (repeat (first | (refine ⟨_, .fn (hf := h113) (hd := rfl) (hr := .inl rfl), ?_⟩; simp (maxSteps := 4000000) only [go_sem, g1, g0, Sight.row, hq2, hw0, d21, d11, pointH]) | (refine ⟨_, .fn (hf := h111) (hd := rfl) (hr := .inl rfl), ?_⟩; simp (maxSteps := 4000000) only [go_sem, g1, g0, Sight.row, hq2, hw0, d21, d11, pointH]) | (refine ⟨_, .fn (hf := h115) (hd := rfl) (hr := .inl rfl), ?_⟩; simp (maxSteps := 4000000) only [go_sem, g1, g0, Sight.row, hq2, hw0, d21, d11, pointH]))); refine ⟨by kernel_rfl, hK _ ?_⟩; clear hK K) | refine z13 ?_ | refine z15 ?_ | refine z10 ?_ | refine z8 ?_ | refine z6 rfl ?_ | refine z12 ?_ | refine z3 ?_ | refine z16 ?_ | refine z11 ?_ | refine z4 ?_)
            refine z17 rfl ?_
            repeat (first | refine z14 ?_ | refine z9 ?_ | refine z7 ?_ | (refine z5 fun K hK => ?_; simp (maxSteps := 4000000) only [go_sem, hw]; refine hK _ ?_; clear hK K) | refine z13 ?_ | refine z15 ?_ | refine z10 ?_ | refine z8 ?_ | refine z6 rfl ?_ | refine z12 ?_ | refine z3 ?_ | refine z16 ?_ | refine z11 ?_ | refine z4 ?_)
            refine ⟨rfl, i + 1, ?_, ⟨hlt, z89 hs hall (by rw [hok]; rfl), ?_⟩, by omega⟩
            · rw [hp]
              refine z19 [] ?_ ?_ rfl rfl <;> simp [lessT, lessM, lessB, AV.less]
            · rw [htk, List.map_append, List.nodup_append]
              exact ⟨hnd, by simp, fun a ha b hb e => hk (by
                have : b = s.hour := by simpa using hb
                rw [← this, ← e]; exact ha)⟩
    · have he : i = seen.length := by (have : ¬ i < seen.length := by simpa using hb); omega
      subst he
      rw [List.take_length] at hall hnd
      repeat (first | refine z14 ?_ | refine z9 ?_ | refine z7 ?_ | (refine z5 fun K hK => ?_; simp (maxSteps := 4000000) only [go_sem]; refine hK _ ?_; clear hK K) | refine z13 ?_ | refine z15 ?_ | refine z10 ?_ | refine z8 ?_ | refine z6 rfl ?_ | refine z12 ?_ | refine z3 ?_ | refine z16 ?_ | refine z11 ?_ | refine z4 ?_)
      simp (maxSteps := 4000000) only [go_sem, sightsB, hall, hnd]
end Go.Ab
namespace Go.Ab
open Go.RowKit Go.Proofs
set_option maxHeartbeats 4000000
set_option maxRecDepth 20000
attribute [local irreducible] WalkL Walk
theorem isEmpty_rows {α β : Type} {f : α → β} {l : List α} (h : l ≠ []) : (l.map f).isEmpty = false := by cases l <;> simp at h ⊢
theorem zf143 (l : List Hour) (h : l ≠ []) (hl : l.length < 2 ^ 30) : FnS Tryz.prog 143 [.sl (hourRows l)] 116 6 (hourRows l) := by
  have hne : (hourRows l).isEmpty = false := isEmpty_rows h
  have h1 : l.length ≤ 549755813888 := by omega
  have h2 : 0 + l.length ≤ 549755813888 := by omega
  refine z126 8 Tryz.call143 Tryz.func143 rfl (by decide) fun J => ?_
  simp (maxSteps := 4000000) only [go_sem, St.start, Tryz.ntmps143, Tryz.results143]
  repeat (first | refine z14 ?_ | refine z9 ?_ | refine z7 ?_ | (refine z5 fun K hK => ?_; simp (maxSteps := 4000000) only [go_sem, hne]; refine hK _ ?_; clear hK K) | refine z13 ?_ | refine z15 ?_ | refine z10 ?_ | refine z8 ?_ | refine z6 rfl ?_ | refine z12 ?_ | refine z3 ?_ | refine z16 ?_ | refine z11 ?_ | refine z4 ?_)
  refine z17 rfl ?_
  repeat (first | refine z14 ?_ | refine z9 ?_ | refine z7 ?_ | (refine z5 fun K hK => ?_; simp (maxSteps := 4000000) only [go_sem, h1, h2, List.nil_append, List.length_nil]; refine hK _ ?_; clear hK K) | refine z13 ?_ | refine z15 ?_ | refine z10 ?_ | refine z8 ?_ | refine z6 rfl ?_ | refine z12 ?_ | refine z3 ?_ | refine z16 ?_ | refine z11 ?_ | refine z4 ?_)
  simp (maxSteps := 4000000) only [go_sem]
def noHour : Hour := ⟨⟨0, 0⟩, ⟨0, 0⟩, ⟨0, 0⟩⟩
def hourAt (l : List Hour) (i : Int) : Hour := l.getD i.toNat noHour
theorem z66 {l : List Hour} {i : Int} (h : 0 ≤ i ∧ i.toNat < l.length) : l[i.toNat]? = some (hourAt l i) := by
  unfold hourAt
  rw [List.getD, List.getElem?_eq_getElem h.2]
  rfl
theorem zf145 (s : Sight) (l : List Hour) (h : 0 ≤ s.hour ∧ s.hour.toNat < l.length) : Fn Tryz.prog 145 [.agg s.row, .ptr [.sl (hourRows l)] 0] (.bool (insideB s.sky (hourAt l s.hour))) := by
  have g1 := z44 (z66 h)
  have h110 := zf146 s.sky (hourAt l s.hour)
  rw [Sky.row, Hour.row] at h110
  refine z21 12 Tryz.call145 Tryz.func145 rfl (by decide) fun J => ?_
  simp (maxSteps := 4000000) only [go_sem, St.start, Tryz.ntmps145, Tryz.results145, Sight.row]
  repeat (first | refine z14 ?_ | refine z9 ?_ | refine z7 ?_ | (refine z5 fun K hK => ?_; simp (maxSteps := 4000000) only [go_sem]; refine hK _ ?_; clear hK K) | refine z13 ?_ | refine z15 ?_ | refine z10 ?_ | refine z8 ?_ | refine z6 rfl ?_ | refine z12 ?_ | refine z3 ?_ | refine z16 ?_ | refine z11 ?_ | refine z4 ?_)
  refine z24 (by kernel_rfl) (by kernel_rfl) fun K hK => ?_
  simp (maxSteps := 4000000) only [go_sem, g1, h.1, Hour.row]
  refine ⟨_, .fn (hf := h110) (hd := rfl) (hr := .inl rfl), ?_⟩
  simp (maxSteps := 4000000) only [go_sem]
  refine ⟨by kernel_rfl, hK _ ?_⟩
  clear hK K
  repeat (first | refine z14 ?_ | refine z9 ?_ | refine z7 ?_ | (refine z5 fun K hK => ?_; simp (maxSteps := 4000000) only [go_sem]; refine hK _ ?_; clear hK K) | refine z13 ?_ | refine z15 ?_ | refine z10 ?_ | refine z8 ?_ | refine z6 rfl ?_ | refine z12 ?_ | refine z3 ?_ | refine z16 ?_ | refine z11 ?_ | refine z4 ?_)
  simp (maxSteps := 4000000) only [go_sem]
def seenHours (seen : List Sight) (l : List Hour) : List Hour := seen.foldl (fun l s => l.set s.hour.toNat (pointH s.sky)) l
def agreesB (seen : List Sight) (l : List Hour) : Bool := seen.all fun s => insideB s.sky (hourAt l s.hour)
theorem z83 (seen : List Sight) : ∀ l : List Hour, (seenHours seen l).length = l.length := by
  induction seen with
  | nil => intro l; rfl
  | cons s seen ih => intro l; rw [seenHours, List.foldl_cons]; exact (ih _).trans (by simp)
def possFrom (seen : List Sight) : List (List Hour) → Nat → List (Nat × List Hour)
  | [], _ => []
  | l :: F, j => if agreesB seen l then (j, seenHours seen l) :: possFrom seen F (j + 1) else possFrom seen F (j + 1)
def possL (F : List (List Hour)) (seen : List Sight) : List (Nat × List Hour) := possFrom seen F 0
def numsOf (l : List (Nat × List Hour)) : List Int := l.map fun x => (x.1 : Int)
def scensOf (l : List (Nat × List Hour)) : List (List Hour) := l.map (·.2)
theorem z117 (seen : List Sight) (x : List Hour) : ∀ (F : List (List Hour)) (j : Nat), possFrom seen (F ++ [x]) j = possFrom seen F j ++ if agreesB seen x then [(j + F.length, seenHours seen x)] else []
  | [], j => by simp [possFrom]
  | l :: F, j => by
    rw [List.cons_append, possFrom, possFrom, z117 seen x F (j + 1), List.length_cons, show j + 1 + F.length = j + (F.length + 1) by omega]
    by_cases h : agreesB seen l = true
    · rw [if_pos h, if_pos h]; rfl
    · rw [if_neg h, if_neg h]
theorem z82 (seen : List Sight) : ∀ (F : List (List Hour)) (j : Nat), (possFrom seen F j).length ≤ F.length
  | [], _ => Nat.le_refl _
  | l :: F, j => by
    rw [possFrom]
    have := z82 seen F (j + 1)
    split <;> simp <;> omega
theorem nums_push (l : List (Nat × List Hour)) (i : Nat) (x : List Hour) : intRows (numsOf (l ++ [(i, x)])) = intRows (numsOf l) ++ [[.i (i : Int)]] := by simp [numsOf, intRows]
theorem scens_push (l : List (Nat × List Hour)) (i : Nat) (x : List Hour) : scenRows (scensOf (l ++ [(i, x)])) = scenRows (scensOf l) ++ [[.sl (hourRows x)]] := by simp [scensOf, scenRows]
theorem z151 (l : List (Nat × List Hour)) : (numsOf l).length = l.length := by simp [numsOf]
def lookF (F : List (List Hour)) (seen : List Sight) (err : Int) (told : Bool) : Int :=
  if badF F then 50 else if sightsB (hd0 F).length seen then (if err = 0 then (if told then (if (possL F seen).isEmpty then 3 else 0) else 1) else err) else 51
def lookV (F : List (List Hour)) (seen : List Sight) : DV := .ptr [.sl (intRows (numsOf (possL F seen))), .sl (scenRows (scensOf (possL F seen))), .i (hd0 F).length] 0
structure ForeGood (F : List (List Hour)) : Prop where
  scen : 1 ≤ F.length ∧ F.length ≤ 6
  hours : 1 ≤ (hd0 F).length ∧ (hd0 F).length ≤ 48
  len : ∀ l ∈ F, l.length = (hd0 F).length
  hour : ∀ l ∈ F, ∀ h ∈ l, hourB h = true
theorem z155 {F : List (List Hour)} : badF F = false ↔ ForeGood F := by
  unfold badF
  rw [Bool.or_eq_false_iff, Bool.not_eq_false', Bool.not_eq_false', z27, List.all_eq_true]
  constructor
  · rintro ⟨h1, h2⟩
    have h3 : ∀ l ∈ F, (1 ≤ l.length ∧ l.length ≤ 48) ∧ l.length = (hd0 F).length ∧ ∀ h ∈ l, hourB h = true := fun l hl => by
      have := h2 l hl
      unfold scenB at this
      rw [Bool.and_eq_true, Bool.and_eq_true, z27, List.all_eq_true] at this
      refine ⟨by omega, ?_, this.2.2⟩
      have := this.2.1
      have e := eq_of_beq this
      omega
    refine ⟨by omega, ?_, fun l hl => (h3 l hl).2.1, fun l hl => (h3 l hl).2.2⟩
    have hm : hd0 F ∈ F := List.mem_of_getElem? (z72 (by omega))
    exact (h3 _ hm).1
  · intro h
    refine ⟨by have := h.scen; omega, fun l hl => ?_⟩
    unfold scenB
    have e := h.len l hl
    have := h.hours
    rw [Bool.and_eq_true, Bool.and_eq_true, z27, List.all_eq_true]
    exact ⟨by omega, by simp [e], h.hour l hl⟩
theorem z251 {H : Int} {seen : List Sight} (h : sightsB H seen = true) : (∀ s ∈ seen, 0 ≤ s.hour ∧ s.hour < H ∧ hourB (pointH s.sky) = true) ∧ (seen.map (·.hour)).Nodup ∧ seen.length ≤ 20 := by
  unfold sightsB at h
  rw [Bool.and_eq_true, Bool.and_eq_true, List.all_eq_true] at h
  refine ⟨fun s hs => ?_, of_decide_eq_true h.2.1, by have := of_decide_eq_true h.2.2; omega⟩
  have := h.1 s hs
  unfold sightOk at this
  rw [Bool.and_eq_true, z27] at this
  exact ⟨by omega, by omega, this.2⟩
theorem hourRows_set {l : List Hour} {i : Nat} {h : Hour} : (hourRows l).set i h.row = hourRows (l.set i h) := by simp [hourRows]
theorem zf109 (F : List (List Hour)) (seen : List Sight) (err : Int) (told : Bool) (hs : ForeSmall F) (hsl : seen.length < 2 ^ 30) :
    Fn Tryz.prog 109 [.agg [.sl (scenRows F)], .sl (sightRows seen), .agg [.i err, .bool told]]
      (.tup [if lookF F seen err told = 0 then lookV F seen else .nilptr, .i (lookF F seen err told)]) := by
  have h106 := zf141 F hs
  refine z21 96 Tryz.call109 Tryz.func109 rfl (by decide) fun J => ?_
  simp (maxSteps := 4000000) only [go_sem, St.start, Tryz.ntmps109, Tryz.results109]
  cases hbad : badF F with
  | true =>
    have e : lookF F seen err told = 50 := by simp [lookF, hbad]
    have e2 : foreF F = 50 := by simp [foreF, hbad]
    rw [e2] at h106
    rw [e, if_neg (by decide)]
    repeat (first | refine z14 ?_ | refine z9 ?_ | refine z7 ?_ | (refine z5 fun K hK => ?_; simp (maxSteps := 4000000) only [go_sem]; (repeat (first | (refine ⟨_, .lent (hf := h106) (hd := rfl) (hr := rfl), ?_⟩; simp (maxSteps := 4000000) only [go_sem]) | (refine ⟨_, .given (hf := h106) (hd := rfl) (ha := rfl), ?_⟩; simp (maxSteps := 4000000) only [go_sem]))); refine hK _ ?_; clear hK K) | refine z13 ?_ | refine z15 ?_ | refine z10 ?_ | refine z8 ?_ | refine z6 rfl ?_ | refine z12 ?_ | refine z3 ?_ | refine z16 ?_ | refine z11 ?_ | refine z4 ?_)
    refine z18 rfl ?_
    repeat (first | refine z14 ?_ | refine z9 ?_ | refine z7 ?_ | (refine z5 fun K hK => ?_; simp (maxSteps := 4000000) only [go_sem]; refine hK _ ?_; clear hK K) | refine z13 ?_ | refine z15 ?_ | refine z10 ?_ | refine z8 ?_ | refine z6 rfl ?_ | refine z12 ?_ | refine z3 ?_ | refine z16 ?_ | refine z11 ?_ | refine z4 ?_)
    simp (maxSteps := 4000000) only [go_sem]
  | false =>
    have hg := z155.1 hbad
    have e2 : foreF F = 0 := by simp [foreF, hbad]
    rw [e2] at h106
    have hF := hg.scen
    have hH := hg.hours
    have h0 : F[0]? = some (hd0 F) := z72 (by omega)
    obtain ⟨H0, hH0⟩ : ∃ H0, H0 = hd0 F := ⟨_, rfl⟩
    rw [← hH0] at h0 hH
    have h107 := zf142 F H0 seen h0 (by omega) hsl
    have g0 := z35 h0
    cases hsi : sightsB (H0.length : Int) seen with
    | false =>
      have e : lookF F seen err told = 51 := by simp [lookF, hbad, ← hH0, hsi]
      rw [hsi] at h107
      rw [e, if_neg (by decide)]
      repeat (first | refine z14 ?_ | refine z9 ?_ | refine z7 ?_ | (refine z5 fun K hK => ?_; simp (maxSteps := 4000000) only [go_sem]; (repeat (first | (refine ⟨_, .lent (hf := h106) (hd := rfl) (hr := rfl), ?_⟩; simp (maxSteps := 4000000) only [go_sem]) | (refine ⟨_, .given (hf := h106) (hd := rfl) (ha := rfl), ?_⟩; simp (maxSteps := 4000000) only [go_sem]))); refine hK _ ?_; clear hK K) | refine z13 ?_ | refine z15 ?_ | refine z10 ?_ | refine z8 ?_ | refine z6 rfl ?_ | refine z12 ?_ | refine z3 ?_ | refine z16 ?_ | refine z11 ?_ | refine z4 ?_)
      refine z17 rfl ?_
      repeat (first | refine z14 ?_ | refine z9 ?_ | refine z7 ?_ | (refine z5 fun K hK => ?_; simp (maxSteps := 4000000) only [go_sem]; (repeat (first | (refine ⟨_, .lent (hf := h107) (hd := rfl) (hr := rfl), ?_⟩; simp (maxSteps := 4000000) only [go_sem]) | (refine ⟨_, .given (hf := h107) (hd := rfl) (ha := rfl), ?_⟩; simp (maxSteps := 4000000) only [go_sem]))); refine hK _ ?_; clear hK K) | refine z13 ?_ | refine z15 ?_ | refine z10 ?_ | refine z8 ?_ | refine z6 rfl ?_ | refine z12 ?_ | refine z3 ?_ | refine z16 ?_ | refine z11 ?_ | refine z4 ?_)
      refine z18 rfl ?_
      repeat (first | refine z14 ?_ | refine z9 ?_ | refine z7 ?_ | (refine z5 fun K hK => ?_; simp (maxSteps := 4000000) only [go_sem]; refine hK _ ?_; clear hK K) | refine z13 ?_ | refine z15 ?_ | refine z10 ?_ | refine z8 ?_ | refine z6 rfl ?_ | refine z12 ?_ | refine z3 ?_ | refine z16 ?_ | refine z11 ?_ | refine z4 ?_)
      simp (maxSteps := 4000000) only [go_sem]
    | true =>
      rw [hsi] at h107
      obtain ⟨s1, s2, s3⟩ := z251 hsi
      repeat (first | refine z14 ?_ | refine z9 ?_ | refine z7 ?_ | (refine z5 fun K hK => ?_; simp (maxSteps := 4000000) only [go_sem]; (repeat (first | (refine ⟨_, .lent (hf := h106) (hd := rfl) (hr := rfl), ?_⟩; simp (maxSteps := 4000000) only [go_sem]) | (refine ⟨_, .given (hf := h106) (hd := rfl) (ha := rfl), ?_⟩; simp (maxSteps := 4000000) only [go_sem]))); refine hK _ ?_; clear hK K) | refine z13 ?_ | refine z15 ?_ | refine z10 ?_ | refine z8 ?_ | refine z6 rfl ?_ | refine z12 ?_ | refine z3 ?_ | refine z16 ?_ | refine z11 ?_ | refine z4 ?_)
      refine z17 rfl ?_
      repeat (first | refine z14 ?_ | refine z9 ?_ | refine z7 ?_ | (refine z5 fun K hK => ?_; simp (maxSteps := 4000000) only [go_sem]; (repeat (first | (refine ⟨_, .lent (hf := h107) (hd := rfl) (hr := rfl), ?_⟩; simp (maxSteps := 4000000) only [go_sem]) | (refine ⟨_, .given (hf := h107) (hd := rfl) (ha := rfl), ?_⟩; simp (maxSteps := 4000000) only [go_sem]))); refine hK _ ?_; clear hK K) | refine z13 ?_ | refine z15 ?_ | refine z10 ?_ | refine z8 ?_ | refine z6 rfl ?_ | refine z12 ?_ | refine z3 ?_ | refine z16 ?_ | refine z11 ?_ | refine z4 ?_)
      refine z17 rfl ?_
      repeat (first | refine z14 ?_ | refine z9 ?_ | refine z7 ?_ | (refine z5 fun K hK => ?_; simp (maxSteps := 4000000) only [go_sem]; refine hK _ ?_; clear hK K) | refine z13 ?_ | refine z15 ?_ | refine z10 ?_ | refine z8 ?_ | refine z6 rfl ?_ | refine z12 ?_ | refine z3 ?_ | refine z16 ?_ | refine z11 ?_ | refine z4 ?_)
      by_cases herr : err = 0
      · subst herr
        refine z17 rfl ?_
        repeat (first | refine z14 ?_ | refine z9 ?_ | refine z7 ?_ | (refine z5 fun K hK => ?_; simp (maxSteps := 4000000) only [go_sem]; refine hK _ ?_; clear hK K) | refine z13 ?_ | refine z15 ?_ | refine z10 ?_ | refine z8 ?_ | refine z6 rfl ?_ | refine z12 ?_ | refine z3 ?_ | refine z16 ?_ | refine z11 ?_ | refine z4 ?_)
        cases told with
        | false =>
          have e : lookF F seen 0 false = 1 := by simp [lookF, hbad, ← hH0, hsi]
          rw [e, if_neg (by decide)]
          refine z18 rfl ?_
          repeat (first | refine z14 ?_ | refine z9 ?_ | refine z7 ?_ | (refine z5 fun K hK => ?_; simp (maxSteps := 4000000) only [go_sem]; refine hK _ ?_; clear hK K) | refine z13 ?_ | refine z15 ?_ | refine z10 ?_ | refine z8 ?_ | refine z6 rfl ?_ | refine z12 ?_ | refine z3 ?_ | refine z16 ?_ | refine z11 ?_ | refine z4 ?_)
          simp (maxSteps := 4000000) only [go_sem]
        | true =>
          refine z17 rfl ?_
          repeat (first | refine z14 ?_ | refine z9 ?_ | refine z7 ?_ | (refine z5 fun K hK => ?_; simp (maxSteps := 4000000) only [go_sem, g0]; refine hK _ ?_; clear hK K) | refine z13 ?_ | refine z15 ?_ | refine z10 ?_ | refine z8 ?_ | refine z6 rfl ?_ | refine z12 ?_ | refine z3 ?_ | refine z16 ?_ | refine z11 ?_ | refine z4 ?_)
          refine z22 (fun (i : Nat) => [(43, .d (.i i))]) (fun i => [(39, some (.box [.own 75, .own 85, .d (.i H0.length)])), (75, some (.arr 3 1 (intRows (numsOf (possFrom seen (F.take i) 0))))), (85, some (.arr 70 1 (scenRows (scensOf (possFrom seen (F.take i) 0)))))]) (fun i => i ≤ F.length) (fun i => F.length - i) 0 ?_ (Nat.zero_le _) ?_
          · simp (maxSteps := 4000000) only [go_sem]
            refine z19 [75, 85] ?_ ?_ rfl rfl <;> simp [lessT, lessM, lessB, AV.less]
            all_goals first | done | rfl | exact ⟨rfl, rfl⟩
          · intro i hi
            simp (maxSteps := 4000000) only [go_sem]
            repeat (first | refine z14 ?_ | refine z9 ?_ | refine z7 ?_ | (refine z5 fun K hK => ?_; simp (maxSteps := 4000000) only [go_sem]; refine hK _ ?_; clear hK K) | refine z13 ?_ | refine z15 ?_ | refine z10 ?_ | refine z8 ?_ | refine z6 rfl ?_ | refine z12 ?_ | refine z3 ?_ | refine z16 ?_ | refine z11 ?_ | refine z4 ?_)
            refine z20 rfl (fun hb => ?_) (fun hb => ?_)
            · have hlt : i < F.length := by simpa using hb
              have hw : IntKind.i64.wrap ((i : Int) + 1) = ((i + 1 : Nat) : Int) := by rw [z23 (by omega)]; simp
              obtain ⟨l, hl⟩ : ∃ l, F[i]? = some l := ⟨_, List.getElem?_eq_getElem hlt⟩
              have hlm := List.mem_of_getElem? hl
              have hll : l.length = H0.length := by rw [hH0]; exact hg.len l hlm
              have g1 := z35 hl
              have htk : F.take (i + 1) = F.take i ++ [l] := by rw [List.take_add_one, hl]; rfl
              have hp := z117 seen l (F.take i) 0
              have htl : (F.take i).length = i := by simp; omega
              rw [← htk, htl, Nat.zero_add] at hp
              have hpl := z82 seen (F.take i) 0
              rw [htl] at hpl
              have h81 := zf143 l (by intro e; rw [e] at hll; simp at hll; omega) (by omega)
              have hrange : ∀ s ∈ seen, 0 ≤ s.hour ∧ s.hour.toNat < l.length := fun s hm => by have := s1 s hm; omega
              have h108 := zf144 seen 145 [.ptr [.sl (hourRows l)] 0] (fun s => insideB s.sky (hourAt l s.hour)) (fun s hm => zf145 s l (hrange s hm)) (by omega)
              change Fn _ _ _ (.bool (agreesB seen l)) at h108
              repeat (first | refine z14 ?_ | refine z9 ?_ | refine z7 ?_ | (refine z5 fun K hK => ?_; simp (maxSteps := 4000000) only [go_sem, g1]; refine hK _ ?_; clear hK K) | refine z13 ?_ | refine z15 ?_ | refine z10 ?_ | refine z8 ?_ | refine z6 rfl ?_ | refine z12 ?_ | refine z3 ?_ | refine z16 ?_ | refine z11 ?_ | refine z4 ?_)
              refine z5 fun K hK => ?_
              simp (maxSteps := 4000000) only [go_sem, g1]
              refine ⟨_, .lentS (hdst := rfl) (hf := h81) (hd := rfl) (hr := by first | exact z51 _ | exact z69 _ | exact z58 _ | exact z81 _ | exact z68 _ | exact z70 _) (hfr := rfl), ?_⟩
              simp (maxSteps := 4000000) only [go_sem]
              refine hK _ ?_
              clear hK K
              have hn1 : (numsOf (possFrom seen (F.take i) 0)).length + 1 ≤ 549755813888 := by simp [numsOf]; omega
              have hn2 : (scensOf (possFrom seen (F.take i) 0)).length + 1 ≤ 549755813888 := by simp [scensOf]; omega
              repeat (first | refine z14 ?_ | refine z9 ?_ | refine z7 ?_ | (refine z5 fun K hK => ?_; simp (maxSteps := 4000000) only [go_sem]; (repeat (first | (refine ⟨_, .lent (hf := h108) (hd := rfl) (hr := rfl), ?_⟩; simp (maxSteps := 4000000) only [go_sem]) | (refine ⟨_, .given (hf := h108) (hd := rfl) (ha := rfl), ?_⟩; simp (maxSteps := 4000000) only [go_sem]))); refine hK _ ?_; clear hK K) | refine z13 ?_ | refine z15 ?_ | refine z10 ?_ | refine z8 ?_ | refine z6 rfl ?_ | refine z12 ?_ | refine z3 ?_ | refine z16 ?_ | refine z11 ?_ | refine z4 ?_)
              refine z20 rfl (fun hc => ?_) (fun hc => ?_)
              · rw [if_pos hc] at hp
                repeat (first | refine z14 ?_ | refine z9 ?_ | refine z7 ?_ | (refine z5 fun K hK => ?_; simp (maxSteps := 4000000) only [go_sem]; refine hK _ ?_; clear hK K) | refine z13 ?_ | refine z15 ?_ | refine z10 ?_ | refine z8 ?_ | refine z6 rfl ?_ | refine z12 ?_ | refine z3 ?_ | refine z16 ?_ | refine z11 ?_ | refine z4 ?_)
                refine z22 (fun (k : Nat) => [(56, .d (.i k))]) (fun k => [(50, some (.arr 116 6 (hourRows (seenHours (seen.take k) l))))]) (fun k => k ≤ seen.length) (fun k => seen.length - k) 0 ?_ (Nat.zero_le _) ?_
                · simp (maxSteps := 4000000) only [go_sem]
                  refine z19 [] ?_ ?_ rfl rfl <;> simp [lessT, lessM, lessB, AV.less]
                  first | done | rfl
                · intro k hk
                  simp (maxSteps := 4000000) only [go_sem]
                  repeat (first | refine z14 ?_ | refine z9 ?_ | refine z7 ?_ | (refine z5 fun K hK => ?_; simp (maxSteps := 4000000) only [go_sem]; refine hK _ ?_; clear hK K) | refine z13 ?_ | refine z15 ?_ | refine z10 ?_ | refine z8 ?_ | refine z6 rfl ?_ | refine z12 ?_ | refine z3 ?_ | refine z16 ?_ | refine z11 ?_ | refine z4 ?_)
                  refine z20 rfl (fun hb => ?_) (fun hb => ?_)
                  · have hlt2 : k < seen.length := by simpa using hb
                    have hw2 : IntKind.i64.wrap ((k : Int) + 1) = ((k + 1 : Nat) : Int) := by rw [z23 (by omega)]; simp
                    obtain ⟨s, hsk⟩ : ∃ s, seen[k]? = some s := ⟨_, List.getElem?_eq_getElem hlt2⟩
                    have gs := z64 hsk
                    have hr := hrange s (List.mem_of_getElem? hsk)
                    have hlk := z83 (seen.take k) l
                    have gr := z44 (z66 (l := seenHours (seen.take k) l) (i := s.hour) ⟨hr.1, by rw [hlk]; exact hr.2⟩)
                    have hnx : seenHours (seen.take (k + 1)) l = (seenHours (seen.take k) l).set s.hour.toNat (pointH s.sky) := z41 _ _ _ _ _ hsk
                    have h111 := zf147 s.sky
                    rw [Sky.row] at h111
                    repeat (first | refine z14 ?_ | refine z9 ?_ | refine z7 ?_ | (refine z5 fun K hK => ?_; simp (maxSteps := 4000000) only [go_sem, gs, Sight.row]; refine hK _ ?_; clear hK K) | refine z13 ?_ | refine z15 ?_ | refine z10 ?_ | refine z8 ?_ | refine z6 rfl ?_ | refine z12 ?_ | refine z3 ?_ | refine z16 ?_ | refine z11 ?_ | refine z4 ?_)
                    refine z24 (by kernel_rfl) (by kernel_rfl) fun K hK => ?_
                    simp (maxSteps := 4000000) only [go_sem, gs, Sight.row, hlk, hr.1, hr.2, gr, Hour.row]
                    refine ⟨_, .fn (hf := h111) (hd := rfl) (hr := .inl rfl), ?_⟩
                    simp (maxSteps := 4000000) only [go_sem, gr, hlk, hr.1, hr.2, Hour.row, pointH]
                    refine ⟨by kernel_rfl, hK _ ?_⟩
                    clear hK K
                    repeat (first | refine z14 ?_ | refine z9 ?_ | refine z7 ?_ | (refine z5 fun K hK => ?_; simp (maxSteps := 4000000) only [go_sem, hw2]; refine hK _ ?_; clear hK K) | refine z13 ?_ | refine z15 ?_ | refine z10 ?_ | refine z8 ?_ | refine z6 rfl ?_ | refine z12 ?_ | refine z3 ?_ | refine z16 ?_ | refine z11 ?_ | refine z4 ?_)
                    refine ⟨rfl, k + 1, ?_, hlt2, by omega⟩
                    rw [hnx, ← hourRows_set]
                    refine z19 [] ?_ ?_ rfl rfl <;> simp [lessT, lessM, lessB, AV.less]
                    first | done | rfl
                  · have he : k = seen.length := by (have : ¬ k < seen.length := by simpa using hb); omega
                    subst he
                    rw [List.take_length]
                    repeat (first | refine z14 ?_ | refine z9 ?_ | refine z7 ?_ | (refine z5 fun K hK => ?_; simp (maxSteps := 4000000) only [go_sem, hn1, hn2]; refine hK _ ?_; clear hK K) | refine z13 ?_ | refine z15 ?_ | refine z10 ?_ | refine z8 ?_ | refine z6 rfl ?_ | refine z12 ?_ | refine z3 ?_ | refine z16 ?_ | refine z11 ?_ | refine z4 ?_)
                    refine z31 [50] ?_
                    simp (maxSteps := 4000000) only [go_sem]
                    refine z135 (by kernel_rfl) (by kernel_rfl) fun K hK => ?_
                    simp (maxSteps := 4000000) only [go_sem, hn1, hn2]
                    refine ⟨by kernel_rfl, hK _ ?_⟩
                    clear hK K
                    repeat (first | refine z14 ?_ | refine z9 ?_ | refine z7 ?_ | (refine z5 fun K hK => ?_; simp (maxSteps := 4000000) only [go_sem, hw]; refine hK _ ?_; clear hK K) | refine z13 ?_ | refine z15 ?_ | refine z10 ?_ | refine z8 ?_ | refine z6 rfl ?_ | refine z12 ?_ | refine z3 ?_ | refine z16 ?_ | refine z11 ?_ | refine z4 ?_)
                    refine ⟨rfl, i + 1, ?_, hlt, by omega⟩
                    rw [hp, nums_push, scens_push]
                    refine z19 [] ?_ ?_ rfl rfl <;> simp [lessT, lessM, lessB, AV.less]
                    all_goals first | done | rfl | exact ⟨rfl, rfl⟩
              · rw [if_neg (by rw [hc]; simp), List.append_nil] at hp
                repeat (first | refine z14 ?_ | refine z9 ?_ | refine z7 ?_ | (refine z5 fun K hK => ?_; simp (maxSteps := 4000000) only [go_sem, hw]; refine hK _ ?_; clear hK K) | refine z13 ?_ | refine z15 ?_ | refine z10 ?_ | refine z8 ?_ | refine z6 rfl ?_ | refine z12 ?_ | refine z3 ?_ | refine z16 ?_ | refine z11 ?_ | refine z4 ?_)
                refine ⟨rfl, i + 1, ?_, hlt, by omega⟩
                rw [hp]
                refine z19 [] ?_ ?_ rfl rfl <;> simp [lessT, lessM, lessB, AV.less]
            · have he : i = F.length := by (have : ¬ i < F.length := by simpa using hb); omega
              subst he
              rw [List.take_length]
              repeat (first | refine z14 ?_ | refine z9 ?_ | refine z7 ?_ | (refine z5 fun K hK => ?_; simp (maxSteps := 4000000) only [go_sem, z151]; refine hK _ ?_; clear hK K) | refine z13 ?_ | refine z15 ?_ | refine z10 ?_ | refine z8 ?_ | refine z6 rfl ?_ | refine z12 ?_ | refine z3 ?_ | refine z16 ?_ | refine z11 ?_ | refine z4 ?_)
              cases hp : possL F seen with
              | nil =>
                have e : lookF F seen 0 true = 3 := by simp [lookF, hbad, ← hH0, hsi, hp]
                rw [e, if_neg (by decide)]
                have hp' : possFrom seen F 0 = [] := hp
                rw [hp']
                refine z18 rfl ?_
                repeat (first | refine z14 ?_ | refine z9 ?_ | refine z7 ?_ | (refine z5 fun K hK => ?_; simp (maxSteps := 4000000) only [go_sem]; refine hK _ ?_; clear hK K) | refine z13 ?_ | refine z15 ?_ | refine z10 ?_ | refine z8 ?_ | refine z6 rfl ?_ | refine z12 ?_ | refine z3 ?_ | refine z16 ?_ | refine z11 ?_ | refine z4 ?_)
                simp (maxSteps := 4000000) only [go_sem]
              | cons y ys =>
                have e : lookF F seen 0 true = 0 := by simp [lookF, hbad, ← hH0, hsi, hp]
                rw [e, if_pos rfl, lookV, hp, ← hH0]
                have hp' : possFrom seen F 0 = y :: ys := hp
                rw [hp']
                have hz : ((((y :: ys).length : Nat) : Int) == 0) = false := by simp; omega
                simp (maxSteps := 4000000) only [go_sem, hz]
                refine z17 rfl ?_
                repeat (first | refine z14 ?_ | refine z9 ?_ | refine z7 ?_ | (refine z5 fun K hK => ?_; simp (maxSteps := 4000000) only [go_sem]; refine hK _ ?_; clear hK K) | refine z13 ?_ | refine z15 ?_ | refine z10 ?_ | refine z8 ?_ | refine z6 rfl ?_ | refine z12 ?_ | refine z3 ?_ | refine z16 ?_ | refine z11 ?_ | refine z4 ?_)
                simp (maxSteps := 4000000) only [go_sem]
      · have e : lookF F seen err told = err := by simp [lookF, hbad, ← hH0, hsi, herr]
        rw [e, if_neg herr]
        have hne : (err != 0) = true := by simpa using herr
        simp (maxSteps := 4000000) only [go_sem, hne]
        refine z18 rfl ?_
        repeat (first | refine z14 ?_ | refine z9 ?_ | refine z7 ?_ | (refine z5 fun K hK => ?_; simp (maxSteps := 4000000) only [go_sem]; refine hK _ ?_; clear hK K) | refine z13 ?_ | refine z15 ?_ | refine z10 ?_ | refine z8 ?_ | refine z6 rfl ?_ | refine z12 ?_ | refine z3 ?_ | refine z16 ?_ | refine z11 ?_ | refine z4 ?_)
        refine z24 (by kernel_rfl) (by kernel_rfl) fun K hK => ?_
        simp (maxSteps := 4000000) only [go_sem]
        refine ⟨by kernel_rfl, hK _ ?_⟩
        clear hK K
        repeat (first | refine z14 ?_ | refine z9 ?_ | refine z7 ?_ | (refine z5 fun K hK => ?_; simp (maxSteps := 4000000) only [go_sem]; refine hK _ ?_; clear hK K) | refine z13 ?_ | refine z15 ?_ | refine z10 ?_ | refine z8 ?_ | refine z6 rfl ?_ | refine z12 ?_ | refine z3 ?_ | refine z16 ?_ | refine z11 ?_ | refine z4 ?_)
        simp (maxSteps := 4000000) only [go_sem]
end Go.Ab
namespace Go.Ab
open Go.RowKit Go.Proofs
set_option maxHeartbeats 4000000
set_option maxRecDepth 20000
attribute [local irreducible] WalkL Walk
theorem zf104 (F : List (List Hour)) (seen : List Sight) (hs : ForeSmall F) (hsl : seen.length < 2 ^ 30) :
    Fn Tryz.prog 104 [.agg [.sl (scenRows F)], .sl (sightRows seen)] (.tup [.sl (intRows (if lookF F seen 0 true = 0 then numsOf (possL F seen) else [])), .i (lookF F seen 0 true)]) := by
  have h100 := zf109 F seen 0 true hs hsl
  obtain ⟨e, he⟩ : ∃ e, e = lookF F seen 0 true := ⟨_, rfl⟩
  rw [← he] at h100 ⊢
  refine z21 22 Tryz.call104 Tryz.func104 rfl (by decide) fun J => ?_
  simp (maxSteps := 4000000) only [go_sem, St.start, Tryz.ntmps104, Tryz.results104]
  by_cases h0 : e = 0
  · rw [if_pos h0, lookV] at h100
    rw [if_pos h0]
    have hz : (e != 0) = false := by simp [h0]
    repeat (first | refine z18 rfl ?_ | refine z17 rfl ?_ | refine z14 ?_ | refine z9 ?_ | refine z7 ?_ | (refine z5 fun K hK => ?_; simp (maxSteps := 4000000) only [go_sem, hz]; (repeat (first | (refine ⟨_, .lent (hf := h100) (hd := rfl) (hr := rfl), ?_⟩; simp (maxSteps := 4000000) only [go_sem, hz]) | (refine ⟨_, .given (hf := h100) (hd := rfl) (ha := rfl), ?_⟩; simp (maxSteps := 4000000) only [go_sem, hz]))); refine hK _ ?_; clear hK K) | refine z13 ?_ | refine z15 ?_ | refine z10 ?_ | refine z8 ?_ | refine z6 rfl ?_ | refine z12 ?_ | refine z3 ?_ | refine z16 ?_ | refine z11 ?_ | refine z4 ?_)
    simp (maxSteps := 4000000) only [go_sem, h0]
  · rw [if_neg h0] at h100
    rw [if_neg h0]
    have hz : (e != 0) = true := by simpa using h0
    repeat (first | refine z18 rfl ?_ | refine z17 rfl ?_ | refine z14 ?_ | refine z9 ?_ | refine z7 ?_ | (refine z5 fun K hK => ?_; simp (maxSteps := 4000000) only [go_sem, hz]; (repeat (first | (refine ⟨_, .lent (hf := h100) (hd := rfl) (hr := rfl), ?_⟩; simp (maxSteps := 4000000) only [go_sem, hz]) | (refine ⟨_, .given (hf := h100) (hd := rfl) (ha := rfl), ?_⟩; simp (maxSteps := 4000000) only [go_sem, hz]))); refine hK _ ?_; clear hK K) | refine z13 ?_ | refine z15 ?_ | refine z10 ?_ | refine z8 ?_ | refine z6 rfl ?_ | refine z12 ?_ | refine z3 ?_ | refine z16 ?_ | refine z11 ?_ | refine z4 ?_)
    simp (maxSteps := 4000000) only [go_sem]
    try rfl
def listRows (l : List (List Int)) : List (List DV) := l.map fun x => [.sl (intRows x)]
theorem z39 (l : List (List Int)) : (listRows l).length = l.length := by simp [listRows]
theorem z62 {l : List (List Int)} {i : Nat} {x : List Int} (h : l[i]? = some x) : (listRows l)[i]? = some [.sl (intRows x)] := by simp [listRows, h]
theorem listRows_head (l : List (List Int)) : headIs 1 (listRows l) = true := by cases l <;> rfl
attribute [go_sem] z39 listRows_head
theorem zf159 (xs : List Int) (g : Nat) (caps : List DV) (q : Int → Bool) (hq : ∀ s ∈ xs, Fn Tryz.prog g (.i s :: caps) (.bool (q s))) (hl : xs.length < 2 ^ 62) : Fn Tryz.prog 159 [.sl (intRows xs), .fn g caps] (.i (idxFrom q xs 0)) := by
  refine z21 19 Tryz.call159 Tryz.func159 rfl (by decide) fun J => ?_
  simp (maxSteps := 4000000) only [go_sem, St.start, Tryz.ntmps159, Tryz.results159]
  repeat (first | refine z14 ?_ | refine z9 ?_ | refine z7 ?_ | (refine z5 fun K hK => ?_; simp (maxSteps := 4000000) only [go_sem]; refine hK _ ?_; clear hK K) | refine z13 ?_ | refine z15 ?_ | refine z10 ?_ | refine z8 ?_ | refine z6 rfl ?_ | refine z12 ?_ | refine z3 ?_ | refine z16 ?_ | refine z11 ?_ | refine z4 ?_)
  refine z22 (fun (i : Nat) => [(8, .d (.i i))]) (fun _ => []) (fun i => i ≤ xs.length ∧ idxFrom q xs 0 = idxFrom q (xs.drop i) i) (fun i => xs.length - i) 0 ?_ ⟨Nat.zero_le _, rfl⟩ ?_
  · simp (maxSteps := 4000000) only [go_sem]
    refine z19 [] ?_ ?_ rfl rfl <;> simp [lessT, lessM, lessB, AV.less]
  · intro i ⟨hi, hq0⟩
    simp (maxSteps := 4000000) only [go_sem]
    repeat (first | refine z14 ?_ | refine z9 ?_ | refine z7 ?_ | (refine z5 fun K hK => ?_; simp (maxSteps := 4000000) only [go_sem]; refine hK _ ?_; clear hK K) | refine z13 ?_ | refine z15 ?_ | refine z10 ?_ | refine z8 ?_ | refine z6 rfl ?_ | refine z12 ?_ | refine z3 ?_ | refine z16 ?_ | refine z11 ?_ | refine z4 ?_)
    refine z20 rfl (fun hb => ?_) (fun hb => ?_)
    · have hlt : i < xs.length := by simpa using hb
      have hw : IntKind.i64.wrap ((i : Int) + 1) = ((i + 1 : Nat) : Int) := by rw [z23 (by omega)]; simp
      obtain ⟨s, hs⟩ : ∃ s, xs[i]? = some s := ⟨_, List.getElem?_eq_getElem hlt⟩
      rw [z30 hs, idxFrom] at hq0
      repeat (first | refine z14 ?_ | refine z9 ?_ | refine z7 ?_ | (refine z5 fun K hK => ?_; simp (maxSteps := 4000000) only [go_sem]; refine hK _ ?_; clear hK K) | refine z13 ?_ | refine z15 ?_ | refine z10 ?_ | refine z8 ?_ | refine z6 rfl ?_ | refine z12 ?_ | refine z3 ?_ | refine z16 ?_ | refine z11 ?_ | refine z4 ?_)
      refine z5 fun K hK => ?_
      simp (maxSteps := 4000000) only [go_sem, hs, List.getElem?_map, z48 hs, hw]
      refine ⟨_, .lent (hf := hq s (List.mem_of_getElem? hs)) (hd := z28 _ _ _ _ rfl) (hr := rfl), ?_⟩
      simp (maxSteps := 4000000) only [go_sem]
      refine hK _ ?_
      clear hK K
      refine z20 rfl (fun hc => ?_) (fun hc => ?_)
      · rw [hc, if_pos rfl] at hq0
        repeat (first | refine z14 ?_ | refine z9 ?_ | refine z7 ?_ | (refine z5 fun K hK => ?_; simp (maxSteps := 4000000) only [go_sem]; refine hK _ ?_; clear hK K) | refine z13 ?_ | refine z15 ?_ | refine z10 ?_ | refine z8 ?_ | refine z6 rfl ?_ | refine z12 ?_ | refine z3 ?_ | refine z16 ?_ | refine z11 ?_ | refine z4 ?_)
        simp (maxSteps := 4000000) only [go_sem, hq0]
      · rw [hc] at hq0
        repeat (first | refine z14 ?_ | refine z9 ?_ | refine z7 ?_ | (refine z5 fun K hK => ?_; simp (maxSteps := 4000000) only [go_sem, hw]; refine hK _ ?_; clear hK K) | refine z13 ?_ | refine z15 ?_ | refine z10 ?_ | refine z8 ?_ | refine z6 rfl ?_ | refine z12 ?_ | refine z3 ?_ | refine z16 ?_ | refine z11 ?_ | refine z4 ?_)
        refine ⟨rfl, i + 1, ?_, ⟨hlt, hq0⟩, by omega⟩
        refine z19 [] ?_ ?_ rfl rfl <;> simp [lessT, lessM, lessB, AV.less]
    · have he : i = xs.length := by (have : ¬ i < xs.length := by simpa using hb); omega
      subst he
      repeat (first | refine z14 ?_ | refine z9 ?_ | refine z7 ?_ | (refine z5 fun K hK => ?_; simp (maxSteps := 4000000) only [go_sem]; refine hK _ ?_; clear hK K) | refine z13 ?_ | refine z15 ?_ | refine z10 ?_ | refine z8 ?_ | refine z6 rfl ?_ | refine z12 ?_ | refine z3 ?_ | refine z16 ?_ | refine z11 ?_ | refine z4 ?_)
      simp (maxSteps := 4000000) only [go_sem, hq0, List.drop_length, idxFrom]
theorem zf121 (xs : List Int) (g : Nat) (caps : List DV) (q : Int → Bool) (hq : ∀ s ∈ xs, Fn Tryz.prog g (.i s :: caps) (.bool (q s))) (hl : xs.length < 2 ^ 62) : Fn Tryz.prog 121 [.sl (intRows xs), .fn g caps] (.bool (xs.any q)) := by
  refine z21 9 Tryz.call121 Tryz.func121 rfl (by decide) fun J => ?_
  simp (maxSteps := 4000000) only [go_sem, St.start, Tryz.ntmps121, Tryz.results121]
  repeat (first | refine z14 ?_ | refine z9 ?_ | refine z7 ?_ | (refine z5 fun K hK => ?_; simp (maxSteps := 4000000) only [go_sem]; (repeat (first | (refine ⟨_, .lent (hf := zf159 xs g caps q hq hl) (hd := rfl) (hr := rfl), ?_⟩; simp (maxSteps := 4000000) only [go_sem]) | (refine ⟨_, .given (hf := zf159 xs g caps q hq hl) (hd := rfl) (ha := rfl), ?_⟩; simp (maxSteps := 4000000) only [go_sem]))); refine hK _ ?_; clear hK K) | refine z13 ?_ | refine z15 ?_ | refine z10 ?_ | refine z8 ?_ | refine z6 rfl ?_ | refine z12 ?_ | refine z3 ?_ | refine z16 ?_ | refine z11 ?_ | refine z4 ?_)
  simp (maxSteps := 4000000) only [go_sem, z34]
structure Grid where
  p : Plant
  scen : List (List Hour)
  hours : Int
def Grid.cells (g : Grid) : List DV := [.sl (scenRows g.p.scen), .sl (sightRows g.p.seen), .sl (intRows g.p.sun), .i g.p.gain, .i g.p.start, .i g.p.stop, .i g.p.charge, .i g.p.capacity, .i g.p.reserve, .i g.p.gas, .i g.p.rate, .i g.p.units, .sl (intRows g.p.needs), .sl (scenRows g.scen), .i g.hours]
def powerB (H : Int) (l : List Int) : Bool := ((l.length : Int) == H) && !(l.any fun n => !withinB n 0 10000)
def sumI (l : List Int) : Int := l.foldl (· + ·) 0
def burnB (g : Grid) (l : List Int) : Bool := (l.all fun n => withinB n 0 g.p.rate) && (((l.length : Int) == g.hours) && decide (sumI l ≤ g.p.units))
end Go.Ab
namespace Go.Ab
open Go.RowKit Go.Proofs
set_option maxHeartbeats 8000000
set_option maxRecDepth 20000
attribute [local irreducible] WalkL Walk
structure PlantSmall (p : Plant) : Prop where
  fore : ForeSmall p.scen
  seen : p.seen.length < 2 ^ 30
  sun : p.sun.length < 2 ^ 30
  needs : p.needs.length < 2 ^ 30
def hoursOf (p : Plant) : Int := (hd0 p.scen).length
def gridOf (p : Plant) : Grid := ⟨p, scensOf (possL p.scen p.seen), hoursOf p⟩
def plantBad (p : Plant) (H : Int) : Bool :=
  !powerB H p.sun || (!powerB H p.needs || (!withinB p.gain 0 100 || (!withinB p.start 0 p.stop || (decide (p.stop > 200) ||
  (!withinB p.capacity 0 100000 || (!withinB p.charge 0 p.capacity || (!withinB p.reserve 0 p.capacity ||
  (!withinB p.gas 0 10000 || (!withinB p.rate 0 10 || !withinB p.units 0 200)))))))))
def openE (p : Plant) (burns : List (List Int)) : Int :=
  if lookF p.scen p.seen 0 true = 0 then (if plantBad p (hoursOf p) then 100 else if burns.any (fun l => !burnB (gridOf p) l) then 101 else 0) else lookF p.scen p.seen 0 true
theorem poss_get {seen : List Sight} : ∀ (F : List (List Hour)) (j i : Nat) (k : Nat) (l' : List Hour), (possFrom seen F j)[i]? = some (k, l') → ∃ l, j ≤ k ∧ F[k - j]? = some l ∧ l' = seenHours seen l ∧ agreesB seen l = true
  | [], _, _, _, _, h => by simp [possFrom] at h
  | l :: F, j, i, k, l', h => by
    rw [possFrom] at h
    have rest : ∀ i : Nat, (possFrom seen F (j + 1))[i]? = some (k, l') → ∃ l2, j ≤ k ∧ (l :: F)[k - j]? = some l2 ∧ l' = seenHours seen l2 ∧ agreesB seen l2 = true := by
      intro i h
      obtain ⟨l2, h1, h2, h3, h4⟩ := poss_get F (j + 1) i k l' h
      refine ⟨l2, by omega, ?_, h3, h4⟩
      rw [show k - j = (k - (j + 1)) + 1 by omega, List.getElem?_cons_succ]
      exact h2
    split at h
    · rename_i ha
      cases i with
      | zero => simp at h; obtain ⟨rfl, rfl⟩ := h; exact ⟨l, Nat.le_refl _, by simp, rfl, ha⟩
      | succ i => exact rest i (by simpa using h)
    · exact rest i h
end Go.Ab
namespace Go.Ab
open Go.RowKit Go.Proofs
set_option maxHeartbeats 8000000
set_option maxRecDepth 20000
attribute [local irreducible] WalkL Walk
def yieldW (p : Plant) (h : Int) (s : Sky) : Int :=
  if withinB s.wind p.start p.stop then wr (wr ((wr (getI p.sun h * wr (100 - s.rain))).tdiv 100) + wr (p.gain * s.wind)) else wr ((wr (getI p.sun h * wr (100 - s.rain))).tdiv 100)
def worstW (p : Plant) (h : Hour) : Sky := ⟨if decide (h.wind.lo ≥ p.start) && decide (h.wind.hi > p.stop) then h.wind.hi else h.wind.lo, h.rain.hi, h.temp.lo⟩
def bestW (p : Plant) (h : Hour) : Sky := ⟨if decide (p.stop < h.wind.hi) && decide (p.stop ≥ h.wind.lo) then p.stop else h.wind.hi, h.rain.lo, h.temp.lo⟩
def leastW (p : Plant) (l : List Hour) : List Sky := l.map (worstW p)
def noSky : Sky := ⟨0, 0, 0⟩
def skyAt (l : List Sky) (i : Nat) : Sky := l.getD i noSky
theorem skyAt_get {l : List Sky} {i : Nat} (h : i < l.length) : l[i]? = some (skyAt l i) := by
  unfold skyAt
  rw [List.getD, List.getElem?_eq_getElem h]
  rfl
def allOf (p : Plant) (burn : List Int) (skies : List Sky) (lv : Int) (j : Nat) : Int :=
  wr (wr (wr (lv + yieldW p j (skyAt skies j)) + wr (p.gas * getI burn j)) - getI p.needs j)
def lvAt (p : Plant) (burn : List Int) (skies : List Sky) : Nat → Int
  | 0 => p.charge
  | j + 1 => min (allOf p burn skies (lvAt p burn skies j) j) p.capacity
def lostAt (p : Plant) (burn : List Int) (skies : List Sky) (j : Nat) : Int := wr (allOf p burn skies (lvAt p burn skies j) j - lvAt p burn skies (j + 1))
def levItems (p : Plant) (burn : List Int) (skies : List Sky) : List (List DV) := (List.range skies.length).map fun j => [.i (lvAt p burn skies (j + 1)), .i (lostAt p burn skies j)]
end Go.Ab
namespace Go.Ab
open Go.RowKit Go.Proofs
set_option maxHeartbeats 8000000
set_option maxRecDepth 20000
attribute [local irreducible] WalkL Walk
def countTo (q : Nat → Bool) : Nat → Nat → Nat
  | 0, i => i
  | k + 1, i => if q i then countTo q k (i + 1) else i
def lastsW (p : Plant) (burn : List Int) (skies : List Sky) : Nat := countTo (fun j => !decide (lvAt p burn skies (j + 1) < p.reserve)) skies.length 0
structure GridOk (g : Grid) (H : Nat) : Prop where
  hours : g.hours = H
  pos : 1 ≤ H ∧ H ≤ 48
  sun : g.p.sun.length = H
  needs : g.p.needs.length = H
  scen : g.scen ≠ [] ∧ g.scen.length < 2 ^ 20
  len : ∀ l ∈ g.scen, l.length = H
  rate : 0 ≤ g.p.rate ∧ g.p.rate ≤ 10
  units : 0 ≤ g.p.units ∧ g.p.units ≤ 200
def hardStep (p : Plant) (burn : List Int) (a : List Sky × Int) (l : List Hour) : List Sky × Int :=
  if (lastsW p burn (leastW p l) : Int) < a.2 then (leastW p l, (lastsW p burn (leastW p l) : Int)) else a
def hardF (g : Grid) (burn : List Int) : List Sky × Int := g.scen.foldl (hardStep g.p burn) ([], g.hours + 1)
end Go.Ab
namespace Go.Ab
open Go.RowKit Go.Proofs
set_option maxHeartbeats 8000000
set_option maxRecDepth 20000
attribute [local irreducible] WalkL Walk
theorem z54 (l : List Int) (k : Nat) (x : Int) : (intRows l).set k [.i x] = intRows (l.set k x) := by simp [intRows, List.map_set]
def downF (r : Int) (burn : List Int) : Nat → Int
  | 0 => -1
  | k + 1 => if getI burn k = r then downF r burn k else k
def planF (g : Grid) : Nat → List Int → Int → Option (List Int × Int)
  | 0, _, _ => none
  | f + 1, burn, units =>
    if (hardF g burn).2 = g.hours then some (burn, units) else
    if downF g.p.rate burn ((hardF g burn).2.toNat + 1) < 0 ∨ units = g.p.units then none else
    planF g f (burn.set (downF g.p.rate burn ((hardF g burn).2.toNat + 1)).toNat (getI burn (downF g.p.rate burn ((hardF g burn).2.toNat + 1)) + 1)) (units + 1)
def planG (g : Grid) : Option (List Int × Int) := planF g (g.p.units.toNat + 1) (List.replicate g.hours.toNat 0) 0
def planV : Option (List Int × Int) → DV
  | some (b, u) => .tup [.sl (intRows b), .i u, .bool true]
  | none => .tup [.sl [], .i 0, .bool false]
def planP (p : Plant) : List Int × Int × Int :=
  if openE p [] = 0 then (match planG (gridOf p) with
    | some (b, u) => (b, u, 0)
    | none => ([], 0, 3)) else ([], 0, openE p [])
end Go.Ab
namespace Go.Ab
open Go.RowKit Go.Proofs
set_option maxHeartbeats 8000000
set_option maxRecDepth 20000
attribute [local irreducible] WalkL Walk
theorem zf51 (n lo hi : Int) : Fn Tryz.prog 51 [.i n, .i lo, .i hi] (.bool (withinB n lo hi)) := by
  refine z21 15 Tryz.call51 Tryz.func51 rfl (by decide) fun J => ?_
  simp (maxSteps := 4000000) only [go_sem, St.start, Tryz.ntmps51, Tryz.results51]
  by_cases h : lo ≤ n
  · repeat (first | refine z14 ?_ | refine z9 ?_ | refine z7 ?_ | (refine z5 fun K hK => ?_; simp (maxSteps := 4000000) only [go_sem, h, ge_iff_le]; refine hK _ ?_; clear hK K) | refine z13 ?_ | refine z15 ?_ | refine z10 ?_ | refine z8 ?_ | refine z6 rfl ?_ | refine z12 ?_ | refine z3 ?_ | refine z16 ?_ | refine z11 ?_ | refine z4 ?_)
    simp (maxSteps := 4000000) only [go_sem, withinB, h]
  · repeat (first | refine z14 ?_ | refine z9 ?_ | refine z7 ?_ | (refine z5 fun K hK => ?_; simp (maxSteps := 4000000) only [go_sem, h, ge_iff_le]; refine hK _ ?_; clear hK K) | refine z13 ?_ | refine z15 ?_ | refine z10 ?_ | refine z8 ?_ | refine z6 rfl ?_ | refine z12 ?_ | refine z3 ?_ | refine z16 ?_ | refine z11 ?_ | refine z4 ?_)
    simp (maxSteps := 4000000) only [go_sem, withinB, h]
theorem zf53 (s : Span) (lo hi : Int) : Fn Tryz.prog 53 [.agg s.row, .i lo, .i hi] (.bool (orderedB s lo hi)) := by
  refine z21 24 Tryz.call53 Tryz.func53 rfl (by decide) fun J => ?_
  simp (maxSteps := 4000000) only [go_sem, St.start, Tryz.ntmps53, Tryz.results53, Span.row]
  by_cases h : lo ≤ s.lo <;> by_cases h2 : s.lo ≤ s.hi
  all_goals
    repeat (first | refine z14 ?_ | refine z9 ?_ | refine z7 ?_ | (refine z5 fun K hK => ?_; simp (maxSteps := 4000000) only [go_sem, h, h2, ge_iff_le]; refine hK _ ?_; clear hK K) | refine z13 ?_ | refine z15 ?_ | refine z10 ?_ | refine z8 ?_ | refine z6 rfl ?_ | refine z12 ?_ | refine z3 ?_ | refine z16 ?_ | refine z11 ?_ | refine z4 ?_)
    simp (maxSteps := 4000000) only [go_sem, orderedB, h, h2]
theorem zf164 (n : Int) (s : Span) : Fn Tryz.prog 164 [.i n, .agg s.row] (.bool (withinB n s.lo s.hi)) := by
  have h97 := zf51 n s.lo s.hi
  refine z21 11 Tryz.call164 Tryz.func164 rfl (by decide) fun J => ?_
  simp (maxSteps := 4000000) only [go_sem, St.start, Tryz.ntmps164, Tryz.results164, Span.row]
  repeat (first | refine z14 ?_ | refine z9 ?_ | refine z7 ?_ | (refine z5 fun K hK => ?_; simp (maxSteps := 4000000) only [go_sem]; (repeat (first | (refine ⟨_, .lent (hf := h97) (hd := rfl) (hr := rfl), ?_⟩; simp (maxSteps := 4000000) only [go_sem]) | (refine ⟨_, .given (hf := h97) (hd := rfl) (ha := rfl), ?_⟩; simp (maxSteps := 4000000) only [go_sem]))); refine hK _ ?_; clear hK K) | refine z13 ?_ | refine z15 ?_ | refine z10 ?_ | refine z8 ?_ | refine z6 rfl ?_ | refine z12 ?_ | refine z3 ?_ | refine z16 ?_ | refine z11 ?_ | refine z4 ?_)
  simp (maxSteps := 4000000) only [go_sem]
theorem zf52 (F : List (List Hour)) (h0 : List Hour) (h : F[0]? = some h0) : Fn Tryz.prog 52 [.agg [.sl (scenRows F)]] (.i h0.length) := by
  have g0 := z35 h
  refine z21 9 Tryz.call52 Tryz.func52 rfl (by decide) fun J => ?_
  simp (maxSteps := 4000000) only [go_sem, St.start, Tryz.ntmps52, Tryz.results52]
  repeat (first | refine z14 ?_ | refine z9 ?_ | refine z7 ?_ | (refine z5 fun K hK => ?_; simp (maxSteps := 4000000) only [go_sem, g0]; refine hK _ ?_; clear hK K) | refine z13 ?_ | refine z15 ?_ | refine z10 ?_ | refine z8 ?_ | refine z6 rfl ?_ | refine z12 ?_ | refine z3 ?_ | refine z16 ?_ | refine z11 ?_ | refine z4 ?_)
  simp (maxSteps := 4000000) only [go_sem]
theorem zf26 (F : List (List Hour)) (hs : ForeSmall F) : Fn Tryz.prog 26 [.agg [.sl (scenRows F)]] (.i (foreF F)) := by
  have h1 := hs.scen
  have h97 := zf51 F.length 1 6
  cases q1 : withinB (F.length : Int) 1 6
  · have e : foreF F = 50 := by simp [foreF, badF, q1]
    rw [e]
    rw [q1] at h97
    refine z21 66 Tryz.call26 Tryz.func26 rfl (by decide) fun J => ?_
    simp (maxSteps := 4000000) only [go_sem, St.start, Tryz.ntmps26, Tryz.results26]
    repeat (first | refine z18 rfl ?_ | refine z17 rfl ?_ | refine z14 ?_ | refine z9 ?_ | refine z7 ?_ | (refine z5 fun K hK => ?_; simp (maxSteps := 4000000) only [go_sem]; (repeat (first | (refine ⟨_, .lent (hf := h97) (hd := rfl) (hr := rfl), ?_⟩; simp (maxSteps := 4000000) only [go_sem]) | (refine ⟨_, .given (hf := h97) (hd := rfl) (ha := rfl), ?_⟩; simp (maxSteps := 4000000) only [go_sem]))); refine hK _ ?_; clear hK K) | refine z13 ?_ | refine z15 ?_ | refine z10 ?_ | refine z8 ?_ | refine z6 rfl ?_ | refine z12 ?_ | refine z3 ?_ | refine z16 ?_ | refine z11 ?_ | refine z4 ?_)
    simp (maxSteps := 4000000) only [go_sem]
  · have hl := z27.1 q1
    rw [q1] at h97
    have h0 := z72 (F := F) (by omega)
    obtain ⟨H0, hH0⟩ : ∃ H0, H0 = hd0 F := ⟨_, rfl⟩
    rw [← hH0] at h0
    have hm0 : H0 ∈ F := List.mem_of_getElem? h0
    have h71 := zf52 F H0 h0
    have h97b := zf51 H0.length 1 48
    have hsm := hs.hours H0 hm0
    have hbadx : ∀ x ∈ F, scenB H0 x = false → foreF F = 50 := fun x hx hf => by
      have : F.all (scenB H0) = false := by
        obtain ⟨i, hi⟩ := List.getElem?_of_mem hx
        exact z158 hi hf
      simp [foreF, badF, ← hH0, this]
    cases q2 : withinB (H0.length : Int) 1 48
    · have e : foreF F = 50 := hbadx H0 hm0 (by simp [scenB, q2])
      rw [e]
      rw [q2] at h97b
      refine z21 66 Tryz.call26 Tryz.func26 rfl (by decide) fun J => ?_
      simp (maxSteps := 4000000) only [go_sem, St.start, Tryz.ntmps26, Tryz.results26]
      repeat (first | refine z18 rfl ?_ | refine z17 rfl ?_ | refine z14 ?_ | refine z9 ?_ | refine z7 ?_ | (refine z5 fun K hK => ?_; simp (maxSteps := 4000000) only [go_sem]; (repeat (first | (refine ⟨_, .lent (hf := h97) (hd := rfl) (hr := rfl), ?_⟩; simp (maxSteps := 4000000) only [go_sem]) | (refine ⟨_, .lent (hf := h71) (hd := rfl) (hr := rfl), ?_⟩; simp (maxSteps := 4000000) only [go_sem]) | (refine ⟨_, .lent (hf := h97b) (hd := rfl) (hr := rfl), ?_⟩; simp (maxSteps := 4000000) only [go_sem]) | (refine ⟨_, .given (hf := h97) (hd := rfl) (ha := rfl), ?_⟩; simp (maxSteps := 4000000) only [go_sem]) | (refine ⟨_, .given (hf := h71) (hd := rfl) (ha := rfl), ?_⟩; simp (maxSteps := 4000000) only [go_sem]) | (refine ⟨_, .given (hf := h97b) (hd := rfl) (ha := rfl), ?_⟩; simp (maxSteps := 4000000) only [go_sem]))); refine hK _ ?_; clear hK K) | refine z13 ?_ | refine z15 ?_ | refine z10 ?_ | refine z8 ?_ | refine z6 rfl ?_ | refine z12 ?_ | refine z3 ?_ | refine z16 ?_ | refine z11 ?_ | refine z4 ?_)
      simp (maxSteps := 4000000) only [go_sem]
    · rw [q2] at h97b
      refine z21 66 Tryz.call26 Tryz.func26 rfl (by decide) fun J => ?_
      simp (maxSteps := 4000000) only [go_sem, St.start, Tryz.ntmps26, Tryz.results26]
      repeat (first | refine z18 rfl ?_ | refine z17 rfl ?_ | refine z14 ?_ | refine z9 ?_ | refine z7 ?_ | (refine z5 fun K hK => ?_; simp (maxSteps := 4000000) only [go_sem]; (repeat (first | (refine ⟨_, .lent (hf := h97) (hd := rfl) (hr := rfl), ?_⟩; simp (maxSteps := 4000000) only [go_sem]) | (refine ⟨_, .lent (hf := h71) (hd := rfl) (hr := rfl), ?_⟩; simp (maxSteps := 4000000) only [go_sem]) | (refine ⟨_, .lent (hf := h97b) (hd := rfl) (hr := rfl), ?_⟩; simp (maxSteps := 4000000) only [go_sem]) | (refine ⟨_, .given (hf := h97) (hd := rfl) (ha := rfl), ?_⟩; simp (maxSteps := 4000000) only [go_sem]) | (refine ⟨_, .given (hf := h71) (hd := rfl) (ha := rfl), ?_⟩; simp (maxSteps := 4000000) only [go_sem]) | (refine ⟨_, .given (hf := h97b) (hd := rfl) (ha := rfl), ?_⟩; simp (maxSteps := 4000000) only [go_sem]))); refine hK _ ?_; clear hK K) | refine z13 ?_ | refine z15 ?_ | refine z10 ?_ | refine z8 ?_ | refine z6 rfl ?_ | refine z12 ?_ | refine z3 ?_ | refine z16 ?_ | refine z11 ?_ | refine z4 ?_)
      refine z22 (fun (i : Nat) => [(3, .d (.i i))]) (fun _ => []) (fun i => i ≤ F.length ∧ (F.take i).all (scenB H0) = true) (fun i => F.length - i) 0 ?_ ⟨Nat.zero_le _, rfl⟩ ?_
      · simp (maxSteps := 4000000) only [go_sem]
        refine z19 [] ?_ ?_ rfl rfl <;> simp [lessT, lessM, lessB, AV.less]
      · intro i ⟨hi, hall⟩
        simp (maxSteps := 4000000) only [go_sem]
        repeat (first | refine z14 ?_ | refine z9 ?_ | refine z7 ?_ | (refine z5 fun K hK => ?_; simp (maxSteps := 4000000) only [go_sem]; refine hK _ ?_; clear hK K) | refine z13 ?_ | refine z15 ?_ | refine z10 ?_ | refine z8 ?_ | refine z6 rfl ?_ | refine z12 ?_ | refine z3 ?_ | refine z16 ?_ | refine z11 ?_ | refine z4 ?_)
        refine z20 rfl (fun hb => ?_) (fun hb => ?_)
        · have hlt : i < F.length := by simpa using hb
          have hw : IntKind.i64.wrap ((i : Int) + 1) = ((i + 1 : Nat) : Int) := by rw [z23 (by omega)]; simp
          obtain ⟨l, hx⟩ : ∃ l, F[i]? = some l := ⟨_, List.getElem?_eq_getElem hlt⟩
          have hlm := List.mem_of_getElem? hx
          have hls := hs.hours l hlm
          have g1 := z35 hx
          cases q3 : ((l.length : Int) != (H0.length : Int))
          · have hll : l.length = H0.length := by
              have : ¬ (l.length : Int) ≠ (H0.length : Int) := by simpa using q3
              omega
            have hw1 : withinB (l.length : Int) 1 48 = true := by rw [hll]; exact q2
            repeat (first | refine z18 rfl ?_ | refine z17 rfl ?_ | refine z14 ?_ | refine z9 ?_ | refine z7 ?_ | (refine z5 fun K hK => ?_; simp (maxSteps := 4000000) only [go_sem, g1, q3]; (repeat (first | (refine ⟨_, .lent (hf := h71) (hd := rfl) (hr := rfl), ?_⟩; simp (maxSteps := 4000000) only [go_sem, g1, q3]) | (refine ⟨_, .given (hf := h71) (hd := rfl) (ha := rfl), ?_⟩; simp (maxSteps := 4000000) only [go_sem, g1, q3]))); refine hK _ ?_; clear hK K) | refine z13 ?_ | refine z15 ?_ | refine z10 ?_ | refine z8 ?_ | refine z6 rfl ?_ | refine z12 ?_ | refine z3 ?_ | refine z16 ?_ | refine z11 ?_ | refine z4 ?_)
            refine z22 (fun (j : Nat) => [(5, .d (.i j))]) (fun _ => []) (fun j => j ≤ l.length ∧ (l.take j).all hourB = true) (fun j => l.length - j) 0 ?_ ⟨Nat.zero_le _, rfl⟩ ?_
            · simp (maxSteps := 4000000) only [go_sem]
              refine z19 [] ?_ ?_ rfl rfl <;> simp [lessT, lessM, lessB, AV.less]
            · intro j ⟨hj, hallj⟩
              simp (maxSteps := 4000000) only [go_sem]
              repeat (first | refine z14 ?_ | refine z9 ?_ | refine z7 ?_ | (refine z5 fun K hK => ?_; simp (maxSteps := 4000000) only [go_sem]; refine hK _ ?_; clear hK K) | refine z13 ?_ | refine z15 ?_ | refine z10 ?_ | refine z8 ?_ | refine z6 rfl ?_ | refine z12 ?_ | refine z3 ?_ | refine z16 ?_ | refine z11 ?_ | refine z4 ?_)
              refine z20 rfl (fun hb => ?_) (fun hb => ?_)
              · have hltj : j < l.length := by simpa using hb
                have hwj : IntKind.i64.wrap ((j : Int) + 1) = ((j + 1 : Nat) : Int) := by rw [z23 (by omega)]; simp
                obtain ⟨h, hxj⟩ : ∃ h, l[j]? = some h := ⟨_, List.getElem?_eq_getElem hltj⟩
                have gj := z44 hxj
                have k1 := zf53 h.wind 0 200
                have k2 := zf53 h.rain 0 100
                have k3 := zf53 h.temp (-50) 50
                rw [Span.row] at k1 k2 k3
                obtain ⟨b1, e1⟩ : ∃ b, b = orderedB h.wind 0 200 := ⟨_, rfl⟩
                obtain ⟨b2, e2⟩ : ∃ b, b = orderedB h.rain 0 100 := ⟨_, rfl⟩
                obtain ⟨b3, e3⟩ : ∃ b, b = orderedB h.temp (-50) 50 := ⟨_, rfl⟩
                have hh : hourB h = (b1 && (b2 && b3)) := by rw [hourB, e1, e2, e3]
                rw [← e1] at k1
                rw [← e2] at k2
                rw [← e3] at k3
                have hbad : hourB h = false → foreF F = 50 := fun hf => hbadx l hlm (by simp [scenB, z158 hxj hf])
                cases b1
                · repeat (first | refine z18 rfl ?_ | refine z17 rfl ?_ | refine z14 ?_ | refine z9 ?_ | refine z7 ?_ | (refine z5 fun K hK => ?_; simp (maxSteps := 4000000) only [go_sem, gj, Hour.row]; (repeat (first | (refine ⟨_, .lent (hf := k1) (hd := rfl) (hr := rfl), ?_⟩; simp (maxSteps := 4000000) only [go_sem, gj, Hour.row]) | (refine ⟨_, .given (hf := k1) (hd := rfl) (ha := rfl), ?_⟩; simp (maxSteps := 4000000) only [go_sem, gj, Hour.row]))); refine hK _ ?_; clear hK K) | refine z13 ?_ | refine z15 ?_ | refine z10 ?_ | refine z8 ?_ | refine z6 rfl ?_ | refine z12 ?_ | refine z3 ?_ | refine z16 ?_ | refine z11 ?_ | refine z4 ?_)
                  simp (maxSteps := 4000000) only [go_sem, hbad (by rw [hh]; rfl)]
                · cases b2
                  · repeat (first | refine z18 rfl ?_ | refine z17 rfl ?_ | refine z14 ?_ | refine z9 ?_ | refine z7 ?_ | (refine z5 fun K hK => ?_; simp (maxSteps := 4000000) only [go_sem, gj, Hour.row]; (repeat (first | (refine ⟨_, .lent (hf := k1) (hd := rfl) (hr := rfl), ?_⟩; simp (maxSteps := 4000000) only [go_sem, gj, Hour.row]) | (refine ⟨_, .lent (hf := k2) (hd := rfl) (hr := rfl), ?_⟩; simp (maxSteps := 4000000) only [go_sem, gj, Hour.row]) | (refine ⟨_, .given (hf := k1) (hd := rfl) (ha := rfl), ?_⟩; simp (maxSteps := 4000000) only [go_sem, gj, Hour.row]) | (refine ⟨_, .given (hf := k2) (hd := rfl) (ha := rfl), ?_⟩; simp (maxSteps := 4000000) only [go_sem, gj, Hour.row]))); refine hK _ ?_; clear hK K) | refine z13 ?_ | refine z15 ?_ | refine z10 ?_ | refine z8 ?_ | refine z6 rfl ?_ | refine z12 ?_ | refine z3 ?_ | refine z16 ?_ | refine z11 ?_ | refine z4 ?_)
                    simp (maxSteps := 4000000) only [go_sem, hbad (by rw [hh]; rfl)]
                  · cases b3
                    · repeat (first | refine z18 rfl ?_ | refine z17 rfl ?_ | refine z14 ?_ | refine z9 ?_ | refine z7 ?_ | (refine z5 fun K hK => ?_; simp (maxSteps := 4000000) only [go_sem, gj, Hour.row]; (repeat (first | (refine ⟨_, .lent (hf := k1) (hd := rfl) (hr := rfl), ?_⟩; simp (maxSteps := 4000000) only [go_sem, gj, Hour.row]) | (refine ⟨_, .lent (hf := k2) (hd := rfl) (hr := rfl), ?_⟩; simp (maxSteps := 4000000) only [go_sem, gj, Hour.row]) | (refine ⟨_, .lent (hf := k3) (hd := rfl) (hr := rfl), ?_⟩; simp (maxSteps := 4000000) only [go_sem, gj, Hour.row]) | (refine ⟨_, .given (hf := k1) (hd := rfl) (ha := rfl), ?_⟩; simp (maxSteps := 4000000) only [go_sem, gj, Hour.row]) | (refine ⟨_, .given (hf := k2) (hd := rfl) (ha := rfl), ?_⟩; simp (maxSteps := 4000000) only [go_sem, gj, Hour.row]) | (refine ⟨_, .given (hf := k3) (hd := rfl) (ha := rfl), ?_⟩; simp (maxSteps := 4000000) only [go_sem, gj, Hour.row]))); refine hK _ ?_; clear hK K) | refine z13 ?_ | refine z15 ?_ | refine z10 ?_ | refine z8 ?_ | refine z6 rfl ?_ | refine z12 ?_ | refine z3 ?_ | refine z16 ?_ | refine z11 ?_ | refine z4 ?_)
                      simp (maxSteps := 4000000) only [go_sem, hbad (by rw [hh]; rfl)]
                    · repeat (first | refine z18 rfl ?_ | refine z17 rfl ?_ | refine z14 ?_ | refine z9 ?_ | refine z7 ?_ | (refine z5 fun K hK => ?_; simp (maxSteps := 4000000) only [go_sem, gj, Hour.row, hwj]; (repeat (first | (refine ⟨_, .lent (hf := k1) (hd := rfl) (hr := rfl), ?_⟩; simp (maxSteps := 4000000) only [go_sem, gj, Hour.row, hwj]) | (refine ⟨_, .lent (hf := k2) (hd := rfl) (hr := rfl), ?_⟩; simp (maxSteps := 4000000) only [go_sem, gj, Hour.row, hwj]) | (refine ⟨_, .lent (hf := k3) (hd := rfl) (hr := rfl), ?_⟩; simp (maxSteps := 4000000) only [go_sem, gj, Hour.row, hwj]) | (refine ⟨_, .given (hf := k1) (hd := rfl) (ha := rfl), ?_⟩; simp (maxSteps := 4000000) only [go_sem, gj, Hour.row, hwj]) | (refine ⟨_, .given (hf := k2) (hd := rfl) (ha := rfl), ?_⟩; simp (maxSteps := 4000000) only [go_sem, gj, Hour.row, hwj]) | (refine ⟨_, .given (hf := k3) (hd := rfl) (ha := rfl), ?_⟩; simp (maxSteps := 4000000) only [go_sem, gj, Hour.row, hwj]))); refine hK _ ?_; clear hK K) | refine z13 ?_ | refine z15 ?_ | refine z10 ?_ | refine z8 ?_ | refine z6 rfl ?_ | refine z12 ?_ | refine z3 ?_ | refine z16 ?_ | refine z11 ?_ | refine z4 ?_)
                      refine ⟨rfl, j + 1, ?_, ⟨hltj, z89 hxj hallj (by rw [hh]; rfl)⟩, by omega⟩
                      refine z19 [] ?_ ?_ rfl rfl <;> simp [lessT, lessM, lessB, AV.less]
              · have he : j = l.length := by (have : ¬ j < l.length := by simpa using hb); omega
                subst he
                rw [List.take_length] at hallj
                repeat (first | refine z14 ?_ | refine z9 ?_ | refine z7 ?_ | (refine z5 fun K hK => ?_; simp (maxSteps := 4000000) only [go_sem, hw]; refine hK _ ?_; clear hK K) | refine z13 ?_ | refine z15 ?_ | refine z10 ?_ | refine z8 ?_ | refine z6 rfl ?_ | refine z12 ?_ | refine z3 ?_ | refine z16 ?_ | refine z11 ?_ | refine z4 ?_)
                refine ⟨rfl, i + 1, ?_, ⟨hlt, z89 hx hall (by rw [scenB, hw1, hallj]; simp [hll])⟩, by omega⟩
                refine z19 [] ?_ ?_ rfl rfl <;> simp [lessT, lessM, lessB, AV.less]
          · have hne : ¬ (l.length : Int) = (H0.length : Int) := by simpa using q3
            have hf : scenB H0 l = false := by
              have : ((l.length : Int) == (H0.length : Int)) = false := by simpa using hne
              unfold scenB
              rw [this]
              simp
            repeat (first | refine z18 rfl ?_ | refine z17 rfl ?_ | refine z14 ?_ | refine z9 ?_ | refine z7 ?_ | (refine z5 fun K hK => ?_; simp (maxSteps := 4000000) only [go_sem, g1, q3]; (repeat (first | (refine ⟨_, .lent (hf := h71) (hd := rfl) (hr := rfl), ?_⟩; simp (maxSteps := 4000000) only [go_sem, g1, q3]) | (refine ⟨_, .given (hf := h71) (hd := rfl) (ha := rfl), ?_⟩; simp (maxSteps := 4000000) only [go_sem, g1, q3]))); refine hK _ ?_; clear hK K) | refine z13 ?_ | refine z15 ?_ | refine z10 ?_ | refine z8 ?_ | refine z6 rfl ?_ | refine z12 ?_ | refine z3 ?_ | refine z16 ?_ | refine z11 ?_ | refine z4 ?_)
            simp (maxSteps := 4000000) only [go_sem, hbadx l hlm hf]
        · have he : i = F.length := by (have : ¬ i < F.length := by simpa using hb); omega
          subst he
          rw [List.take_length] at hall
          repeat (first | refine z14 ?_ | refine z9 ?_ | refine z7 ?_ | (refine z5 fun K hK => ?_; simp (maxSteps := 4000000) only [go_sem]; refine hK _ ?_; clear hK K) | refine z13 ?_ | refine z15 ?_ | refine z10 ?_ | refine z8 ?_ | refine z6 rfl ?_ | refine z12 ?_ | refine z3 ?_ | refine z16 ?_ | refine z11 ?_ | refine z4 ?_)
          simp (maxSteps := 4000000) only [go_sem, foreF, badF, q1, ← hH0, hall]
theorem point_ok (s : Sky) : hourB (pointH s) = (withinB s.wind 0 200 && (withinB s.rain 0 100 && withinB s.temp (-50) 50)) := by
  have e : ∀ n lo hi : Int, orderedB ⟨n, n⟩ lo hi = withinB n lo hi := fun n lo hi => by
    unfold orderedB withinB
    dsimp only
    rw [decide_eq_true (Int.le_refl n), Bool.true_and]
  rw [hourB, pointH, e, e, e]
theorem zf158 (F : List (List Hour)) (h0 : List Hour) (x : Int) (h : F[0]? = some h0) (hl : h0.length < 2 ^ 30) : Fn Tryz.prog 158 [.agg [.sl (scenRows F)], .i x] (.bool (withinB x 0 ((h0.length : Int) - 1))) := by
  have h71 := zf52 F h0 h
  have h97 := zf51 x 0 ((h0.length : Int) - 1)
  have hw : IntKind.i64.wrap ((h0.length : Int) - 1) = (h0.length : Int) - 1 := z23 (by omega)
  refine z21 10 Tryz.call158 Tryz.func158 rfl (by decide) fun J => ?_
  simp (maxSteps := 4000000) only [go_sem, St.start, Tryz.ntmps158, Tryz.results158]
  repeat (first | refine z14 ?_ | refine z9 ?_ | refine z7 ?_ | (refine z5 fun K hK => ?_; simp (maxSteps := 4000000) only [go_sem, hw]; (repeat (first | (refine ⟨_, .lent (hf := h71) (hd := rfl) (hr := rfl), ?_⟩; simp (maxSteps := 4000000) only [go_sem, hw]) | (refine ⟨_, .lent (hf := h97) (hd := rfl) (hr := rfl), ?_⟩; simp (maxSteps := 4000000) only [go_sem, hw]) | (refine ⟨_, .given (hf := h71) (hd := rfl) (ha := rfl), ?_⟩; simp (maxSteps := 4000000) only [go_sem, hw]) | (refine ⟨_, .given (hf := h97) (hd := rfl) (ha := rfl), ?_⟩; simp (maxSteps := 4000000) only [go_sem, hw]))); refine hK _ ?_; clear hK K) | refine z13 ?_ | refine z15 ?_ | refine z10 ?_ | refine z8 ?_ | refine z6 rfl ?_ | refine z12 ?_ | refine z3 ?_ | refine z16 ?_ | refine z11 ?_ | refine z4 ?_)
  simp (maxSteps := 4000000) only [go_sem]
def seenF (F : List (List Hour)) (seen : List Sight) : Int := if badF F then 50 else if sightsB (hd0 F).length seen then 0 else 51
theorem zf120 (F : List (List Hour)) (seen : List Sight) (hs : ForeSmall F) (hsl : seen.length < 2 ^ 30) : Fn Tryz.prog 120 [.agg [.sl (scenRows F)], .sl (sightRows seen)] (.i (seenF F seen)) := by
  have h86 := zf26 F hs
  cases hb : badF F
  · have hg := z155.1 hb
    have hF := hg.scen
    have hH := hg.hours
    have e86 : foreF F = 0 := by simp [foreF, hb]
    rw [e86] at h86
    have h0 := z72 (F := F) (by omega)
    obtain ⟨H0, hH0⟩ : ∃ H0, H0 = hd0 F := ⟨_, rfl⟩
    rw [← hH0] at h0 hH
    have e0 : seenF F seen = if sightsB (H0.length : Int) seen then 0 else 51 := by simp [seenF, hb, ← hH0]
    rw [e0]
    cases hlen : decide ((seen.length : Int) > 20)
    · have hlen' := of_decide_eq_false hlen
      refine z21 67 Tryz.call120 Tryz.func120 rfl (by decide) fun J => ?_
      simp (maxSteps := 4000000) only [go_sem, St.start, Tryz.ntmps120, Tryz.results120]
      repeat (first | refine z18 rfl ?_ | refine z17 rfl ?_ | refine z14 ?_ | refine z9 ?_ | refine z7 ?_ | (refine z5 fun K hK => ?_; simp (maxSteps := 4000000) only [go_sem, hlen]; (repeat (first | (refine ⟨_, .lent (hf := h86) (hd := rfl) (hr := rfl), ?_⟩; simp (maxSteps := 4000000) only [go_sem, hlen]) | (refine ⟨_, .given (hf := h86) (hd := rfl) (ha := rfl), ?_⟩; simp (maxSteps := 4000000) only [go_sem, hlen]))); refine hK _ ?_; clear hK K) | refine z13 ?_ | refine z15 ?_ | refine z10 ?_ | refine z8 ?_ | refine z6 rfl ?_ | refine z12 ?_ | refine z3 ?_ | refine z16 ?_ | refine z11 ?_ | refine z4 ?_)
      refine z22 (fun (i : Nat) => [(5, .d (.i i))]) (fun _ => []) (fun i => i ≤ seen.length ∧ (seen.take i).all (sightOk H0.length) = true ∧ ((seen.take i).map (·.hour)).Nodup) (fun i => seen.length - i) 0 ?_ ⟨Nat.zero_le _, rfl, by simp⟩ ?_
      · simp (maxSteps := 4000000) only [go_sem]
        refine z19 [] ?_ ?_ rfl rfl <;> simp [lessT, lessM, lessB, AV.less]
      · intro i ⟨hi, hall, hnd⟩
        simp (maxSteps := 4000000) only [go_sem]
        repeat (first | refine z14 ?_ | refine z9 ?_ | refine z7 ?_ | (refine z5 fun K hK => ?_; simp (maxSteps := 4000000) only [go_sem]; refine hK _ ?_; clear hK K) | refine z13 ?_ | refine z15 ?_ | refine z10 ?_ | refine z8 ?_ | refine z6 rfl ?_ | refine z12 ?_ | refine z3 ?_ | refine z16 ?_ | refine z11 ?_ | refine z4 ?_)
        refine z20 rfl (fun hb => ?_) (fun hb => ?_)
        · have hlt : i < seen.length := by simpa using hb
          have hw : IntKind.i64.wrap ((i : Int) + 1) = ((i + 1 : Nat) : Int) := by rw [z23 (by omega)]; simp
          obtain ⟨s, hx⟩ : ∃ s, seen[i]? = some s := ⟨_, List.getElem?_eq_getElem hlt⟩
          have g1 := z64 hx
          have htk : seen.take (i + 1) = seen.take i ++ [s] := by rw [List.take_add_one, hx]; rfl
          have k0 := zf158 F H0 s.hour h0 (by omega)
          have k1 := zf51 s.sky.wind 0 200
          have k2 := zf51 s.sky.rain 0 100
          have k3 := zf51 s.sky.temp (-50) 50
          obtain ⟨b0, e0⟩ : ∃ b, b = withinB s.hour 0 ((H0.length : Int) - 1) := ⟨_, rfl⟩
          obtain ⟨b1, e1⟩ : ∃ b, b = withinB s.sky.wind 0 200 := ⟨_, rfl⟩
          obtain ⟨b2, e2⟩ : ∃ b, b = withinB s.sky.rain 0 100 := ⟨_, rfl⟩
          obtain ⟨b3, e3⟩ : ∃ b, b = withinB s.sky.temp (-50) 50 := ⟨_, rfl⟩
          have hh : sightOk H0.length s = (b0 && (b1 && (b2 && b3))) := by rw [sightOk, point_ok, e0, e1, e2, e3]
          rw [← e0] at k0
          rw [← e1] at k1
          rw [← e2] at k2
          rw [← e3] at k3
          have hbad : sightOk H0.length s = false → sightsB (H0.length : Int) seen = false := fun hf => by rw [sightsB, z158 hx hf]; rfl
          cases b0
          · repeat (first | refine z18 rfl ?_ | refine z17 rfl ?_ | refine z14 ?_ | refine z9 ?_ | refine z7 ?_ | (refine z5 fun K hK => ?_; simp (maxSteps := 4000000) only [go_sem, g1, Sight.row]; (repeat (first | (refine ⟨_, .lent (hf := k0) (hd := rfl) (hr := rfl), ?_⟩; simp (maxSteps := 4000000) only [go_sem, g1, Sight.row]) | (refine ⟨_, .given (hf := k0) (hd := rfl) (ha := rfl), ?_⟩; simp (maxSteps := 4000000) only [go_sem, g1, Sight.row]))); refine hK _ ?_; clear hK K) | (refine z24 (by kernel_rfl) (by kernel_rfl) fun K hK => ?_; simp (maxSteps := 4000000) only [go_sem, g1, Sight.row]; (repeat (first | (refine ⟨_, .fn (hf := k0) (hd := rfl) (hr := .inl rfl), ?_⟩; simp (maxSteps := 4000000) only [go_sem, g1, Sight.row]))); refine ⟨by kernel_rfl, hK _ ?_⟩; clear hK K) | refine z13 ?_ | refine z15 ?_ | refine z10 ?_ | refine z8 ?_ | refine z6 rfl ?_ | refine z12 ?_ | refine z3 ?_ | refine z16 ?_ | refine z11 ?_ | refine z4 ?_)
            simp (maxSteps := 4000000) only [go_sem, hbad (by rw [hh]; rfl)]
          cases b1
          · repeat (first | refine z18 rfl ?_ | refine z17 rfl ?_ | refine z14 ?_ | refine z9 ?_ | refine z7 ?_ | (refine z5 fun K hK => ?_; simp (maxSteps := 4000000) only [go_sem, g1, Sight.row]; (repeat (first | (refine ⟨_, .lent (hf := k0) (hd := rfl) (hr := rfl), ?_⟩; simp (maxSteps := 4000000) only [go_sem, g1, Sight.row]) | (refine ⟨_, .lent (hf := k1) (hd := rfl) (hr := rfl), ?_⟩; simp (maxSteps := 4000000) only [go_sem, g1, Sight.row]) | (refine ⟨_, .given (hf := k0) (hd := rfl) (ha := rfl), ?_⟩; simp (maxSteps := 4000000) only [go_sem, g1, Sight.row]) | (refine ⟨_, .given (hf := k1) (hd := rfl) (ha := rfl), ?_⟩; simp (maxSteps := 4000000) only [go_sem, g1, Sight.row]))); refine hK _ ?_; clear hK K) | (refine z24 (by kernel_rfl) (by kernel_rfl) fun K hK => ?_; simp (maxSteps := 4000000) only [go_sem, g1, Sight.row]; (repeat (first | (refine ⟨_, .fn (hf := k0) (hd := rfl) (hr := .inl rfl), ?_⟩; simp (maxSteps := 4000000) only [go_sem, g1, Sight.row]) | (refine ⟨_, .fn (hf := k1) (hd := rfl) (hr := .inl rfl), ?_⟩; simp (maxSteps := 4000000) only [go_sem, g1, Sight.row]))); refine ⟨by kernel_rfl, hK _ ?_⟩; clear hK K) | refine z13 ?_ | refine z15 ?_ | refine z10 ?_ | refine z8 ?_ | refine z6 rfl ?_ | refine z12 ?_ | refine z3 ?_ | refine z16 ?_ | refine z11 ?_ | refine z4 ?_)
            simp (maxSteps := 4000000) only [go_sem, hbad (by rw [hh]; rfl)]
          cases b2
          · repeat (first | refine z18 rfl ?_ | refine z17 rfl ?_ | refine z14 ?_ | refine z9 ?_ | refine z7 ?_ | (refine z5 fun K hK => ?_; simp (maxSteps := 4000000) only [go_sem, g1, Sight.row]; (repeat (first | (refine ⟨_, .lent (hf := k0) (hd := rfl) (hr := rfl), ?_⟩; simp (maxSteps := 4000000) only [go_sem, g1, Sight.row]) | (refine ⟨_, .lent (hf := k1) (hd := rfl) (hr := rfl), ?_⟩; simp (maxSteps := 4000000) only [go_sem, g1, Sight.row]) | (refine ⟨_, .lent (hf := k2) (hd := rfl) (hr := rfl), ?_⟩; simp (maxSteps := 4000000) only [go_sem, g1, Sight.row]) | (refine ⟨_, .given (hf := k0) (hd := rfl) (ha := rfl), ?_⟩; simp (maxSteps := 4000000) only [go_sem, g1, Sight.row]) | (refine ⟨_, .given (hf := k1) (hd := rfl) (ha := rfl), ?_⟩; simp (maxSteps := 4000000) only [go_sem, g1, Sight.row]) | (refine ⟨_, .given (hf := k2) (hd := rfl) (ha := rfl), ?_⟩; simp (maxSteps := 4000000) only [go_sem, g1, Sight.row]))); refine hK _ ?_; clear hK K) | (refine z24 (by kernel_rfl) (by kernel_rfl) fun K hK => ?_; simp (maxSteps := 4000000) only [go_sem, g1, Sight.row]; (repeat (first | (refine ⟨_, .fn (hf := k0) (hd := rfl) (hr := .inl rfl), ?_⟩; simp (maxSteps := 4000000) only [go_sem, g1, Sight.row]) | (refine ⟨_, .fn (hf := k1) (hd := rfl) (hr := .inl rfl), ?_⟩; simp (maxSteps := 4000000) only [go_sem, g1, Sight.row]) | (refine ⟨_, .fn (hf := k2) (hd := rfl) (hr := .inl rfl), ?_⟩; simp (maxSteps := 4000000) only [go_sem, g1, Sight.row]))); refine ⟨by kernel_rfl, hK _ ?_⟩; clear hK K) | refine z13 ?_ | refine z15 ?_ | refine z10 ?_ | refine z8 ?_ | refine z6 rfl ?_ | refine z12 ?_ | refine z3 ?_ | refine z16 ?_ | refine z11 ?_ | refine z4 ?_)
            simp (maxSteps := 4000000) only [go_sem, hbad (by rw [hh]; rfl)]
          cases b3
          · repeat (first | refine z18 rfl ?_ | refine z17 rfl ?_ | refine z14 ?_ | refine z9 ?_ | refine z7 ?_ | (refine z5 fun K hK => ?_; simp (maxSteps := 4000000) only [go_sem, g1, Sight.row]; (repeat (first | (refine ⟨_, .lent (hf := k0) (hd := rfl) (hr := rfl), ?_⟩; simp (maxSteps := 4000000) only [go_sem, g1, Sight.row]) | (refine ⟨_, .lent (hf := k1) (hd := rfl) (hr := rfl), ?_⟩; simp (maxSteps := 4000000) only [go_sem, g1, Sight.row]) | (refine ⟨_, .lent (hf := k2) (hd := rfl) (hr := rfl), ?_⟩; simp (maxSteps := 4000000) only [go_sem, g1, Sight.row]) | (refine ⟨_, .lent (hf := k3) (hd := rfl) (hr := rfl), ?_⟩; simp (maxSteps := 4000000) only [go_sem, g1, Sight.row]) | (refine ⟨_, .given (hf := k0) (hd := rfl) (ha := rfl), ?_⟩; simp (maxSteps := 4000000) only [go_sem, g1, Sight.row]) | (refine ⟨_, .given (hf := k1) (hd := rfl) (ha := rfl), ?_⟩; simp (maxSteps := 4000000) only [go_sem, g1, Sight.row]) | (refine ⟨_, .given (hf := k2) (hd := rfl) (ha := rfl), ?_⟩; simp (maxSteps := 4000000) only [go_sem, g1, Sight.row]) | (refine ⟨_, .given (hf := k3) (hd := rfl) (ha := rfl), ?_⟩; simp (maxSteps := 4000000) only [go_sem, g1, Sight.row]))); refine hK _ ?_; clear hK K) | (refine z24 (by kernel_rfl) (by kernel_rfl) fun K hK => ?_; simp (maxSteps := 4000000) only [go_sem, g1, Sight.row]; (repeat (first | (refine ⟨_, .fn (hf := k0) (hd := rfl) (hr := .inl rfl), ?_⟩; simp (maxSteps := 4000000) only [go_sem, g1, Sight.row]) | (refine ⟨_, .fn (hf := k1) (hd := rfl) (hr := .inl rfl), ?_⟩; simp (maxSteps := 4000000) only [go_sem, g1, Sight.row]) | (refine ⟨_, .fn (hf := k2) (hd := rfl) (hr := .inl rfl), ?_⟩; simp (maxSteps := 4000000) only [go_sem, g1, Sight.row]) | (refine ⟨_, .fn (hf := k3) (hd := rfl) (hr := .inl rfl), ?_⟩; simp (maxSteps := 4000000) only [go_sem, g1, Sight.row]))); refine ⟨by kernel_rfl, hK _ ?_⟩; clear hK K) | refine z13 ?_ | refine z15 ?_ | refine z10 ?_ | refine z8 ?_ | refine z6 rfl ?_ | refine z12 ?_ | refine z3 ?_ | refine z16 ?_ | refine z11 ?_ | refine z4 ?_)
            simp (maxSteps := 4000000) only [go_sem, hbad (by rw [hh]; rfl)]
          repeat (first | refine z18 rfl ?_ | refine z17 rfl ?_ | refine z14 ?_ | refine z9 ?_ | refine z7 ?_ | (refine z5 fun K hK => ?_; simp (maxSteps := 4000000) only [go_sem, g1, Sight.row]; (repeat (first | (refine ⟨_, .lent (hf := k0) (hd := rfl) (hr := rfl), ?_⟩; simp (maxSteps := 4000000) only [go_sem, g1, Sight.row]) | (refine ⟨_, .lent (hf := k1) (hd := rfl) (hr := rfl), ?_⟩; simp (maxSteps := 4000000) only [go_sem, g1, Sight.row]) | (refine ⟨_, .lent (hf := k2) (hd := rfl) (hr := rfl), ?_⟩; simp (maxSteps := 4000000) only [go_sem, g1, Sight.row]) | (refine ⟨_, .lent (hf := k3) (hd := rfl) (hr := rfl), ?_⟩; simp (maxSteps := 4000000) only [go_sem, g1, Sight.row]) | (refine ⟨_, .given (hf := k0) (hd := rfl) (ha := rfl), ?_⟩; simp (maxSteps := 4000000) only [go_sem, g1, Sight.row]) | (refine ⟨_, .given (hf := k1) (hd := rfl) (ha := rfl), ?_⟩; simp (maxSteps := 4000000) only [go_sem, g1, Sight.row]) | (refine ⟨_, .given (hf := k2) (hd := rfl) (ha := rfl), ?_⟩; simp (maxSteps := 4000000) only [go_sem, g1, Sight.row]) | (refine ⟨_, .given (hf := k3) (hd := rfl) (ha := rfl), ?_⟩; simp (maxSteps := 4000000) only [go_sem, g1, Sight.row]))); refine hK _ ?_; clear hK K) | (refine z24 (by kernel_rfl) (by kernel_rfl) fun K hK => ?_; simp (maxSteps := 4000000) only [go_sem, g1, Sight.row]; (repeat (first | (refine ⟨_, .fn (hf := k0) (hd := rfl) (hr := .inl rfl), ?_⟩; simp (maxSteps := 4000000) only [go_sem, g1, Sight.row]) | (refine ⟨_, .fn (hf := k1) (hd := rfl) (hr := .inl rfl), ?_⟩; simp (maxSteps := 4000000) only [go_sem, g1, Sight.row]) | (refine ⟨_, .fn (hf := k2) (hd := rfl) (hr := .inl rfl), ?_⟩; simp (maxSteps := 4000000) only [go_sem, g1, Sight.row]) | (refine ⟨_, .fn (hf := k3) (hd := rfl) (hr := .inl rfl), ?_⟩; simp (maxSteps := 4000000) only [go_sem, g1, Sight.row]))); refine ⟨by kernel_rfl, hK _ ?_⟩; clear hK K) | refine z13 ?_ | refine z15 ?_ | refine z10 ?_ | refine z8 ?_ | refine z6 rfl ?_ | refine z12 ?_ | refine z3 ?_ | refine z16 ?_ | refine z11 ?_ | refine z4 ?_)
          refine z22 (fun (j : Nat) => [(7, .d (.i j))]) (fun _ => []) (fun j => j ≤ i ∧ ∀ x ∈ seen.take j, x.hour ≠ s.hour) (fun j => i - j) 0 ?_ ⟨Nat.zero_le _, by simp⟩ ?_
          · simp (maxSteps := 4000000) only [go_sem]
            refine z19 [] ?_ ?_ rfl rfl <;> simp [lessT, lessM, lessB, AV.less]
          · intro j ⟨hj, hno⟩
            simp (maxSteps := 4000000) only [go_sem]
            repeat (first | refine z14 ?_ | refine z9 ?_ | refine z7 ?_ | (refine z5 fun K hK => ?_; simp (maxSteps := 4000000) only [go_sem]; refine hK _ ?_; clear hK K) | refine z13 ?_ | refine z15 ?_ | refine z10 ?_ | refine z8 ?_ | refine z6 rfl ?_ | refine z12 ?_ | refine z3 ?_ | refine z16 ?_ | refine z11 ?_ | refine z4 ?_)
            refine z20 rfl (fun hb => ?_) (fun hb => ?_)
            · have hltj : j < i := by simpa using hb
              have hwj : IntKind.i64.wrap ((j : Int) + 1) = ((j + 1 : Nat) : Int) := by rw [z23 (by omega)]; simp
              obtain ⟨y, hy⟩ : ∃ y, seen[j]? = some y := ⟨_, List.getElem?_eq_getElem (by omega)⟩
              have gj := z64 hy
              cases hq : (y.hour == s.hour)
              · have hne : y.hour ≠ s.hour := by simpa using hq
                repeat (first | refine z18 rfl ?_ | refine z17 rfl ?_ | refine z14 ?_ | refine z9 ?_ | refine z7 ?_ | (refine z5 fun K hK => ?_; simp (maxSteps := 4000000) only [go_sem, gj, g1, Sight.row, hq, hwj]; refine hK _ ?_; clear hK K) | (refine z24 (by kernel_rfl) (by kernel_rfl) fun K hK => ?_; simp (maxSteps := 4000000) only [go_sem, gj, g1, Sight.row, hq, hwj]; refine ⟨by kernel_rfl, hK _ ?_⟩; clear hK K) | refine z13 ?_ | refine z15 ?_ | refine z10 ?_ | refine z8 ?_ | refine z6 rfl ?_ | refine z12 ?_ | refine z3 ?_ | refine z16 ?_ | refine z11 ?_ | refine z4 ?_)
                refine ⟨rfl, j + 1, ?_, ⟨hltj, fun x hx2 => ?_⟩, by omega⟩
                · refine z19 [] ?_ ?_ rfl rfl <;> simp [lessT, lessM, lessB, AV.less]
                · rw [List.take_add_one, hy, List.mem_append] at hx2
                  rcases hx2 with hx2 | hx2
                  · exact hno x hx2
                  · have : x = y := by simpa using hx2
                    rw [this]; exact hne
              · have heq : y.hour = s.hour := by simpa using hq
                have hF : sightsB (H0.length : Int) seen = false := by
                  have : ¬ (seen.map (·.hour)).Nodup := fun hn => by
                    have h3 : (((seen.take (i + 1)).map (·.hour))).Nodup := (List.Sublist.map _ (List.take_sublist _ _)).nodup hn
                    rw [htk, List.map_append, List.nodup_append] at h3
                    refine h3.2.2 y.hour (List.mem_map.2 ⟨y, ?_, rfl⟩) s.hour (by simp) heq
                    exact List.mem_of_getElem? (i := j) (by rw [List.getElem?_take, if_pos hltj]; exact hy)
                  simp [sightsB, this]
                repeat (first | refine z18 rfl ?_ | refine z17 rfl ?_ | refine z14 ?_ | refine z9 ?_ | refine z7 ?_ | (refine z5 fun K hK => ?_; simp (maxSteps := 4000000) only [go_sem, gj, g1, Sight.row, hq]; refine hK _ ?_; clear hK K) | (refine z24 (by kernel_rfl) (by kernel_rfl) fun K hK => ?_; simp (maxSteps := 4000000) only [go_sem, gj, g1, Sight.row, hq]; refine ⟨by kernel_rfl, hK _ ?_⟩; clear hK K) | refine z13 ?_ | refine z15 ?_ | refine z10 ?_ | refine z8 ?_ | refine z6 rfl ?_ | refine z12 ?_ | refine z3 ?_ | refine z16 ?_ | refine z11 ?_ | refine z4 ?_)
                simp (maxSteps := 4000000) only [go_sem, hF]
            · have he : j = i := by (have : ¬ j < i := by simpa using hb); omega
              subst he
              repeat (first | refine z14 ?_ | refine z9 ?_ | refine z7 ?_ | (refine z5 fun K hK => ?_; simp (maxSteps := 4000000) only [go_sem, hw]; refine hK _ ?_; clear hK K) | refine z13 ?_ | refine z15 ?_ | refine z10 ?_ | refine z8 ?_ | refine z6 rfl ?_ | refine z12 ?_ | refine z3 ?_ | refine z16 ?_ | refine z11 ?_ | refine z4 ?_)
              refine ⟨rfl, j + 1, ?_, ⟨hlt, z89 hx hall (by rw [hh]; rfl), ?_⟩, by omega⟩
              · refine z19 [] ?_ ?_ rfl rfl <;> simp [lessT, lessM, lessB, AV.less]
              · rw [htk, List.map_append, List.nodup_append]
                refine ⟨hnd, by simp, fun a ha b hb e => ?_⟩
                obtain ⟨z, hz, rfl⟩ := List.mem_map.1 ha
                have : b = s.hour := by simpa using hb
                exact hno z hz (by rw [e, this])
        · have he : i = seen.length := by (have : ¬ i < seen.length := by simpa using hb); omega
          subst he
          rw [List.take_length] at hall hnd
          have hF : sightsB (H0.length : Int) seen = true := by
            simp only [sightsB, hall, Bool.true_and, Bool.and_eq_true, decide_eq_true_eq]
            exact ⟨hnd, by omega⟩
          repeat (first | refine z14 ?_ | refine z9 ?_ | refine z7 ?_ | (refine z5 fun K hK => ?_; simp (maxSteps := 4000000) only [go_sem]; refine hK _ ?_; clear hK K) | refine z13 ?_ | refine z15 ?_ | refine z10 ?_ | refine z8 ?_ | refine z6 rfl ?_ | refine z12 ?_ | refine z3 ?_ | refine z16 ?_ | refine z11 ?_ | refine z4 ?_)
          simp (maxSteps := 4000000) only [go_sem, hF, if_true]
    · have hlen' := of_decide_eq_true hlen
      have hF : sightsB (H0.length : Int) seen = false := by
        have : decide ((seen.length : Int) ≤ 20) = false := by simp; omega
        simp only [sightsB, this, Bool.and_false]
      rw [hF, if_neg (by decide)]
      refine z21 67 Tryz.call120 Tryz.func120 rfl (by decide) fun J => ?_
      simp (maxSteps := 4000000) only [go_sem, St.start, Tryz.ntmps120, Tryz.results120]
      repeat (first | refine z18 rfl ?_ | refine z17 rfl ?_ | refine z14 ?_ | refine z9 ?_ | refine z7 ?_ | (refine z5 fun K hK => ?_; simp (maxSteps := 4000000) only [go_sem, hlen]; (repeat (first | (refine ⟨_, .lent (hf := h86) (hd := rfl) (hr := rfl), ?_⟩; simp (maxSteps := 4000000) only [go_sem, hlen]) | (refine ⟨_, .given (hf := h86) (hd := rfl) (ha := rfl), ?_⟩; simp (maxSteps := 4000000) only [go_sem, hlen]))); refine hK _ ?_; clear hK K) | refine z13 ?_ | refine z15 ?_ | refine z10 ?_ | refine z8 ?_ | refine z6 rfl ?_ | refine z12 ?_ | refine z3 ?_ | refine z16 ?_ | refine z11 ?_ | refine z4 ?_)
      simp (maxSteps := 4000000) only [go_sem]
  · have e86 : foreF F = 50 := by simp [foreF, hb]
    have e0 : seenF F seen = 50 := by simp [seenF, hb]
    rw [e86] at h86
    rw [e0]
    refine z21 67 Tryz.call120 Tryz.func120 rfl (by decide) fun J => ?_
    simp (maxSteps := 4000000) only [go_sem, St.start, Tryz.ntmps120, Tryz.results120]
    repeat (first | refine z18 rfl ?_ | refine z17 rfl ?_ | refine z14 ?_ | refine z9 ?_ | refine z7 ?_ | (refine z5 fun K hK => ?_; simp (maxSteps := 4000000) only [go_sem]; (repeat (first | (refine ⟨_, .lent (hf := h86) (hd := rfl) (hr := rfl), ?_⟩; simp (maxSteps := 4000000) only [go_sem]) | (refine ⟨_, .given (hf := h86) (hd := rfl) (ha := rfl), ?_⟩; simp (maxSteps := 4000000) only [go_sem]))); refine hK _ ?_; clear hK K) | refine z13 ?_ | refine z15 ?_ | refine z10 ?_ | refine z8 ?_ | refine z6 rfl ?_ | refine z12 ?_ | refine z3 ?_ | refine z16 ?_ | refine z11 ?_ | refine z4 ?_)
    simp (maxSteps := 4000000) only [go_sem]
end Go.Ab
namespace Go.Ab
open Go.RowKit Go.Proofs
set_option maxHeartbeats 8000000
set_option maxRecDepth 20000
attribute [local irreducible] WalkL Walk
theorem zf134 (s : Sky) (h : Hour) : Fn Tryz.prog 134 [.agg s.row, .agg h.row] (.bool (insideB s h)) := by
  have h1 := zf164 s.wind h.wind
  have h2 := zf164 s.rain h.rain
  have h3 := zf164 s.temp h.temp
  rw [Span.row] at h1 h2 h3
  obtain ⟨b1, e1⟩ : ∃ b, b = withinB s.wind h.wind.lo h.wind.hi := ⟨_, rfl⟩
  obtain ⟨b2, e2⟩ : ∃ b, b = withinB s.rain h.rain.lo h.rain.hi := ⟨_, rfl⟩
  obtain ⟨b3, e3⟩ : ∃ b, b = withinB s.temp h.temp.lo h.temp.hi := ⟨_, rfl⟩
  rw [insideB, ← e1, ← e2, ← e3]
  rw [← e1] at h1
  rw [← e2] at h2
  rw [← e3] at h3
  refine z21 24 Tryz.call134 Tryz.func134 rfl (by decide) fun J => ?_
  simp (maxSteps := 4000000) only [go_sem, St.start, Tryz.ntmps134, Tryz.results134, Hour.row, Sky.row]
  cases b1 <;> cases b2
  all_goals
    repeat (first | refine z14 ?_ | refine z9 ?_ | refine z7 ?_ | (refine z5 fun K hK => ?_; simp (maxSteps := 4000000) only [go_sem]; (repeat (first | (refine ⟨_, .lent (hf := h1) (hd := rfl) (hr := rfl), ?_⟩; simp (maxSteps := 4000000) only [go_sem]) | (refine ⟨_, .lent (hf := h2) (hd := rfl) (hr := rfl), ?_⟩; simp (maxSteps := 4000000) only [go_sem]) | (refine ⟨_, .lent (hf := h3) (hd := rfl) (hr := rfl), ?_⟩; simp (maxSteps := 4000000) only [go_sem]) | (refine ⟨_, .given (hf := h1) (hd := rfl) (ha := rfl), ?_⟩; simp (maxSteps := 4000000) only [go_sem]) | (refine ⟨_, .given (hf := h2) (hd := rfl) (ha := rfl), ?_⟩; simp (maxSteps := 4000000) only [go_sem]) | (refine ⟨_, .given (hf := h3) (hd := rfl) (ha := rfl), ?_⟩; simp (maxSteps := 4000000) only [go_sem]))); refine hK _ ?_; clear hK K) | refine z13 ?_ | refine z15 ?_ | refine z10 ?_ | refine z8 ?_ | refine z6 rfl ?_ | refine z12 ?_ | refine z3 ?_ | refine z16 ?_ | refine z11 ?_ | refine z4 ?_)
    simp (maxSteps := 4000000) only [go_sem]
theorem zf100 (F : List (List Hour)) (seen : List Sight) (hg : ForeGood F) (hsi : sightsB (hd0 F).length seen = true) : Fn Tryz.prog 100 [.agg [.sl (scenRows F)], .sl (sightRows seen)] (.sl (intRows (numsOf (possL F seen)))) := by
  obtain ⟨s1, s2, s3⟩ := z251 hsi
  have hF := hg.scen
  have hH := hg.hours
  refine z21 50 Tryz.call100 Tryz.func100 rfl (by decide) fun J => ?_
  simp (maxSteps := 4000000) only [go_sem, St.start, Tryz.ntmps100, Tryz.results100]
  repeat (first | refine z14 ?_ | refine z9 ?_ | refine z7 ?_ | (refine z5 fun K hK => ?_; simp (maxSteps := 4000000) only [go_sem]; refine hK _ ?_; clear hK K) | refine z13 ?_ | refine z15 ?_ | refine z10 ?_ | refine z8 ?_ | refine z6 rfl ?_ | refine z12 ?_ | refine z3 ?_ | refine z16 ?_ | refine z11 ?_ | refine z4 ?_)
  refine z22 (fun (i : Nat) => [(6, .d (.i i)), (5, .own 48)]) (fun i => [(48, some (.arr 3 1 (intRows (numsOf (possFrom seen (F.take i) 0)))))]) (fun i => i ≤ F.length) (fun i => F.length - i) 0 ?_ (Nat.zero_le _) ?_
  · simp (maxSteps := 4000000) only [go_sem]
    refine z19 [48] ?_ ?_ rfl rfl <;> simp [lessT, lessM, lessB, AV.less]
    all_goals first | done | rfl
  · intro i hi
    simp (maxSteps := 4000000) only [go_sem]
    repeat (first | refine z14 ?_ | refine z9 ?_ | refine z7 ?_ | (refine z5 fun K hK => ?_; simp (maxSteps := 4000000) only [go_sem]; refine hK _ ?_; clear hK K) | refine z13 ?_ | refine z15 ?_ | refine z10 ?_ | refine z8 ?_ | refine z6 rfl ?_ | refine z12 ?_ | refine z3 ?_ | refine z16 ?_ | refine z11 ?_ | refine z4 ?_)
    refine z20 rfl (fun hb => ?_) (fun hb => ?_)
    · have hlt : i < F.length := by simpa using hb
      have hw : IntKind.i64.wrap ((i : Int) + 1) = ((i + 1 : Nat) : Int) := by rw [z23 (by omega)]; simp
      obtain ⟨l, hl⟩ : ∃ l, F[i]? = some l := ⟨_, List.getElem?_eq_getElem hlt⟩
      have hll := hg.len l (List.mem_of_getElem? hl)
      have g1 := z35 hl
      have htk : F.take (i + 1) = F.take i ++ [l] := by rw [List.take_add_one, hl]; rfl
      have hp := z117 seen l (F.take i) 0
      have htl : (F.take i).length = i := by simp; omega
      rw [← htk, htl, Nat.zero_add] at hp
      have hpl := z82 seen (F.take i) 0
      rw [htl] at hpl
      have hn1 : (numsOf (possFrom seen (F.take i) 0)).length + 1 ≤ 549755813888 := by simp [numsOf]; omega
      repeat (first | refine z14 ?_ | refine z9 ?_ | refine z7 ?_ | (refine z5 fun K hK => ?_; simp (maxSteps := 4000000) only [go_sem]; refine hK _ ?_; clear hK K) | refine z13 ?_ | refine z15 ?_ | refine z10 ?_ | refine z8 ?_ | refine z6 rfl ?_ | refine z12 ?_ | refine z3 ?_ | refine z16 ?_ | refine z11 ?_ | refine z4 ?_)
      refine z22 (fun (k : Nat) => [(8, .d (.i k)), (7, .d (.bool (agreesB (seen.take k) l)))]) (fun _ => []) (fun k => k ≤ seen.length) (fun k => seen.length - k) 0 ?_ (Nat.zero_le _) ?_
      · simp (maxSteps := 4000000) only [go_sem]
        refine z19 [] ?_ ?_ rfl rfl <;> simp [lessT, lessM, lessB, AV.less]
        all_goals first | done | rfl
      · intro k hk
        simp (maxSteps := 4000000) only [go_sem]
        repeat (first | refine z14 ?_ | refine z9 ?_ | refine z7 ?_ | (refine z5 fun K hK => ?_; simp (maxSteps := 4000000) only [go_sem]; refine hK _ ?_; clear hK K) | refine z13 ?_ | refine z15 ?_ | refine z10 ?_ | refine z8 ?_ | refine z6 rfl ?_ | refine z12 ?_ | refine z3 ?_ | refine z16 ?_ | refine z11 ?_ | refine z4 ?_)
        refine z20 rfl (fun hb => ?_) (fun hb => ?_)
        · have hltk : k < seen.length := by simpa using hb
          have hwk : IntKind.i64.wrap ((k : Int) + 1) = ((k + 1 : Nat) : Int) := by rw [z23 (by omega)]; simp
          obtain ⟨s, hsk⟩ : ∃ s, seen[k]? = some s := ⟨_, List.getElem?_eq_getElem hltk⟩
          have gs := z64 hsk
          have hr := s1 s (List.mem_of_getElem? hsk)
          have gr := z44 (z66 (l := l) (i := s.hour) ⟨hr.1, by omega⟩)
          have h90 := zf134 s.sky (hourAt l s.hour)
          rw [Sky.row, Hour.row] at h90
          have hnx : agreesB (seen.take (k + 1)) l = (agreesB (seen.take k) l && insideB s.sky (hourAt l s.hour)) := by
            rw [List.take_add_one, hsk]; simp [agreesB]
          cases hq : agreesB (seen.take k) l
          · rw [hq, Bool.false_and] at hnx
            repeat (first | refine z18 rfl ?_ | refine z17 rfl ?_ | refine z14 ?_ | refine z9 ?_ | refine z7 ?_ | (refine z5 fun K hK => ?_; simp (maxSteps := 4000000) only [go_sem, hwk]; refine hK _ ?_; clear hK K) | (refine z24 (by kernel_rfl) (by kernel_rfl) fun K hK => ?_; simp (maxSteps := 4000000) only [go_sem, hwk]; refine ⟨by kernel_rfl, hK _ ?_⟩; clear hK K) | refine z13 ?_ | refine z15 ?_ | refine z10 ?_ | refine z8 ?_ | refine z6 rfl ?_ | refine z12 ?_ | refine z3 ?_ | refine z16 ?_ | refine z11 ?_ | refine z4 ?_)
            refine ⟨rfl, k + 1, ?_, hltk, by omega⟩
            rw [hnx]
            refine z19 [] ?_ ?_ rfl rfl <;> simp [lessT, lessM, lessB, AV.less]
          · rw [hq, Bool.true_and] at hnx
            repeat (first | refine z18 rfl ?_ | refine z17 rfl ?_ | refine z14 ?_ | refine z9 ?_ | refine z7 ?_ | (refine z5 fun K hK => ?_; simp (maxSteps := 4000000) only [go_sem, gs, g1, gr, hr.1, Sight.row, Hour.row, hwk]; (repeat (first | (refine ⟨_, .lent (hf := h90) (hd := rfl) (hr := rfl), ?_⟩; simp (maxSteps := 4000000) only [go_sem, gs, g1, gr, hr.1, Sight.row, Hour.row, hwk]) | (refine ⟨_, .given (hf := h90) (hd := rfl) (ha := rfl), ?_⟩; simp (maxSteps := 4000000) only [go_sem, gs, g1, gr, hr.1, Sight.row, Hour.row, hwk]))); refine hK _ ?_; clear hK K) | (refine z24 (by kernel_rfl) (by kernel_rfl) fun K hK => ?_; simp (maxSteps := 4000000) only [go_sem, gs, g1, gr, hr.1, Sight.row, Hour.row, hwk]; (repeat (first | (refine ⟨_, .fn (hf := h90) (hd := rfl) (hr := .inl rfl), ?_⟩; simp (maxSteps := 4000000) only [go_sem, gs, g1, gr, hr.1, Sight.row, Hour.row, hwk]))); refine ⟨by kernel_rfl, hK _ ?_⟩; clear hK K) | refine z13 ?_ | refine z15 ?_ | refine z10 ?_ | refine z8 ?_ | refine z6 rfl ?_ | refine z12 ?_ | refine z3 ?_ | refine z16 ?_ | refine z11 ?_ | refine z4 ?_)
            refine ⟨rfl, k + 1, ?_, hltk, by omega⟩
            rw [hnx]
            refine z19 [] ?_ ?_ rfl rfl <;> simp [lessT, lessM, lessB, AV.less]
        · have he : k = seen.length := by (have : ¬ k < seen.length := by simpa using hb); omega
          subst he
          rw [List.take_length]
          cases hag : agreesB seen l
          · rw [hag, if_neg (by decide), List.append_nil] at hp
            repeat (first | refine z18 rfl ?_ | refine z17 rfl ?_ | refine z14 ?_ | refine z9 ?_ | refine z7 ?_ | (refine z5 fun K hK => ?_; simp (maxSteps := 4000000) only [go_sem, hw]; refine hK _ ?_; clear hK K) | refine z13 ?_ | refine z15 ?_ | refine z10 ?_ | refine z8 ?_ | refine z6 rfl ?_ | refine z12 ?_ | refine z3 ?_ | refine z16 ?_ | refine z11 ?_ | refine z4 ?_)
            refine ⟨rfl, i + 1, ?_, hlt, by omega⟩
            rw [hp]
            refine z19 [] ?_ ?_ rfl rfl <;> simp [lessT, lessM, lessB, AV.less]
          · rw [hag, if_pos rfl] at hp
            repeat (first | refine z18 rfl ?_ | refine z17 rfl ?_ | refine z14 ?_ | refine z9 ?_ | refine z7 ?_ | (refine z5 fun K hK => ?_; simp (maxSteps := 4000000) only [go_sem, hn1, hw]; refine hK _ ?_; clear hK K) | refine z13 ?_ | refine z15 ?_ | refine z10 ?_ | refine z8 ?_ | refine z6 rfl ?_ | refine z12 ?_ | refine z3 ?_ | refine z16 ?_ | refine z11 ?_ | refine z4 ?_)
            refine ⟨rfl, i + 1, ?_, hlt, by omega⟩
            rw [hp, nums_push]
            refine z19 [] ?_ ?_ rfl rfl <;> simp [lessT, lessM, lessB, AV.less]
            all_goals first | done | rfl
    · have he : i = F.length := by (have : ¬ i < F.length := by simpa using hb); omega
      subst he
      rw [List.take_length]
      repeat (first | refine z14 ?_ | refine z9 ?_ | refine z7 ?_ | (refine z5 fun K hK => ?_; simp (maxSteps := 4000000) only [go_sem]; refine hK _ ?_; clear hK K) | refine z13 ?_ | refine z15 ?_ | refine z10 ?_ | refine z8 ?_ | refine z6 rfl ?_ | refine z12 ?_ | refine z3 ?_ | refine z16 ?_ | refine z11 ?_ | refine z4 ?_)
      simp (maxSteps := 4000000) only [go_sem]
      rfl
theorem zf83 (F : List (List Hour)) (seen : List Sight) (hs : ForeSmall F) (hsl : seen.length < 2 ^ 30) :
    Fn Tryz.prog 83 [.agg [.sl (scenRows F)], .sl (sightRows seen)] (.tup [.sl (intRows (if lookF F seen 0 true = 0 then numsOf (possL F seen) else [])), .i (lookF F seen 0 true)]) := by
  have h68 := zf120 F seen hs hsl
  cases hb : badF F
  · have hg := z155.1 hb
    cases hsi : sightsB ((hd0 F).length : Int) seen
    · have e1 : seenF F seen = 51 := by simp [seenF, hb, hsi]
      have e2 : lookF F seen 0 true = 51 := by simp [lookF, hb, hsi]
      rw [e1] at h68
      rw [e2, if_neg (by decide)]
      refine z21 21 Tryz.call83 Tryz.func83 rfl (by decide) fun J => ?_
      simp (maxSteps := 4000000) only [go_sem, St.start, Tryz.ntmps83, Tryz.results83]
      repeat (first | refine z18 rfl ?_ | refine z17 rfl ?_ | refine z14 ?_ | refine z9 ?_ | refine z7 ?_ | (refine z5 fun K hK => ?_; simp (maxSteps := 4000000) only [go_sem]; (repeat (first | (refine ⟨_, .lent (hf := h68) (hd := rfl) (hr := rfl), ?_⟩; simp (maxSteps := 4000000) only [go_sem]) | (refine ⟨_, .given (hf := h68) (hd := rfl) (ha := rfl), ?_⟩; simp (maxSteps := 4000000) only [go_sem]))); refine hK _ ?_; clear hK K) | refine z13 ?_ | refine z15 ?_ | refine z10 ?_ | refine z8 ?_ | refine z6 rfl ?_ | refine z12 ?_ | refine z3 ?_ | refine z16 ?_ | refine z11 ?_ | refine z4 ?_)
      simp (maxSteps := 4000000) only [go_sem]
      try rfl
    · have e1 : seenF F seen = 0 := by simp [seenF, hb, hsi]
      rw [e1] at h68
      have h69 := zf100 F seen hg hsi
      cases hp : possL F seen with
      | nil =>
        have e2 : lookF F seen 0 true = 3 := by simp [lookF, hb, hsi, hp]
        rw [hp] at h69
        rw [e2, if_neg (by decide)]
        have e3 : intRows (numsOf []) = [] := rfl
        rw [e3] at h69
        refine z21 21 Tryz.call83 Tryz.func83 rfl (by decide) fun J => ?_
        simp (maxSteps := 4000000) only [go_sem, St.start, Tryz.ntmps83, Tryz.results83]
        repeat (first | refine z18 rfl ?_ | refine z17 rfl ?_ | refine z14 ?_ | refine z9 ?_ | refine z7 ?_ | (refine z5 fun K hK => ?_; simp (maxSteps := 4000000) only [go_sem]; (repeat (first | (refine ⟨_, .lent (hf := h68) (hd := rfl) (hr := rfl), ?_⟩; simp (maxSteps := 4000000) only [go_sem]) | (refine ⟨_, .lent (hf := h69) (hd := rfl) (hr := rfl), ?_⟩; simp (maxSteps := 4000000) only [go_sem]) | (refine ⟨_, .given (hf := h68) (hd := rfl) (ha := rfl), ?_⟩; simp (maxSteps := 4000000) only [go_sem]) | (refine ⟨_, .given (hf := h69) (hd := rfl) (ha := rfl), ?_⟩; simp (maxSteps := 4000000) only [go_sem]))); refine hK _ ?_; clear hK K) | refine z13 ?_ | refine z15 ?_ | refine z10 ?_ | refine z8 ?_ | refine z6 rfl ?_ | refine z12 ?_ | refine z3 ?_ | refine z16 ?_ | refine z11 ?_ | refine z4 ?_)
        simp (maxSteps := 4000000) only [go_sem]
        try rfl
      | cons y ys =>
        have e2 : lookF F seen 0 true = 0 := by simp [lookF, hb, hsi, hp]
        rw [hp] at h69
        rw [e2, if_pos rfl]
        have hz : ((((y :: ys).length : Nat) : Int) == 0) = false := by simp; omega
        refine z21 21 Tryz.call83 Tryz.func83 rfl (by decide) fun J => ?_
        simp (maxSteps := 4000000) only [go_sem, St.start, Tryz.ntmps83, Tryz.results83]
        repeat (first | refine z18 rfl ?_ | refine z17 rfl ?_ | refine z14 ?_ | refine z9 ?_ | refine z7 ?_ | (refine z5 fun K hK => ?_; simp (maxSteps := 4000000) only [go_sem, hz, z151]; (repeat (first | (refine ⟨_, .lent (hf := h68) (hd := rfl) (hr := rfl), ?_⟩; simp (maxSteps := 4000000) only [go_sem, hz, z151]) | (refine ⟨_, .lent (hf := h69) (hd := rfl) (hr := rfl), ?_⟩; simp (maxSteps := 4000000) only [go_sem, hz, z151]) | (refine ⟨_, .given (hf := h68) (hd := rfl) (ha := rfl), ?_⟩; simp (maxSteps := 4000000) only [go_sem, hz, z151]) | (refine ⟨_, .given (hf := h69) (hd := rfl) (ha := rfl), ?_⟩; simp (maxSteps := 4000000) only [go_sem, hz, z151]))); refine hK _ ?_; clear hK K) | refine z13 ?_ | refine z15 ?_ | refine z10 ?_ | refine z8 ?_ | refine z6 rfl ?_ | refine z12 ?_ | refine z3 ?_ | refine z16 ?_ | refine z11 ?_ | refine z4 ?_)
        simp (maxSteps := 4000000) only [go_sem]
  · have e1 : seenF F seen = 50 := by simp [seenF, hb]
    have e2 : lookF F seen 0 true = 50 := by simp [lookF, hb]
    rw [e1] at h68
    rw [e2, if_neg (by decide)]
    refine z21 21 Tryz.call83 Tryz.func83 rfl (by decide) fun J => ?_
    simp (maxSteps := 4000000) only [go_sem, St.start, Tryz.ntmps83, Tryz.results83]
    repeat (first | refine z18 rfl ?_ | refine z17 rfl ?_ | refine z14 ?_ | refine z9 ?_ | refine z7 ?_ | (refine z5 fun K hK => ?_; simp (maxSteps := 4000000) only [go_sem]; (repeat (first | (refine ⟨_, .lent (hf := h68) (hd := rfl) (hr := rfl), ?_⟩; simp (maxSteps := 4000000) only [go_sem]) | (refine ⟨_, .given (hf := h68) (hd := rfl) (ha := rfl), ?_⟩; simp (maxSteps := 4000000) only [go_sem]))); refine hK _ ?_; clear hK K) | refine z13 ?_ | refine z15 ?_ | refine z10 ?_ | refine z8 ?_ | refine z6 rfl ?_ | refine z12 ?_ | refine z3 ?_ | refine z16 ?_ | refine z11 ?_ | refine z4 ?_)
    simp (maxSteps := 4000000) only [go_sem]
    try rfl
def plantE (p : Plant) : Int := if lookF p.scen p.seen 0 true = 0 then (if plantBad p (hoursOf p) then 100 else 0) else lookF p.scen p.seen 0 true
end Go.Ab
namespace Go.Ab
open Go.RowKit Go.Proofs
set_option maxHeartbeats 8000000
set_option maxRecDepth 20000
attribute [local irreducible] WalkL Walk
def eqAll : List Hour → List Sky → Bool
  | [], [] => true
  | h :: l, s :: m => insideB s h && eqAll l m
  | _, _ => false
theorem zf175 (xs : List (List Hour)) (g : Nat) (caps : List DV) (q : (List Hour) → Bool) (hq : ∀ s ∈ xs, Fn Tryz.prog g (.sl (hourRows s) :: caps) (.bool (q s))) (hl : xs.length < 2 ^ 62) : Fn Tryz.prog 175 [.sl (scenRows xs), .fn g caps] (.i (idxFrom q xs 0)) := by
  refine z21 19 Tryz.call175 Tryz.func175 rfl (by decide) fun J => ?_
  simp (maxSteps := 4000000) only [go_sem, St.start, Tryz.ntmps175, Tryz.results175]
  repeat (first | refine z14 ?_ | refine z9 ?_ | refine z7 ?_ | (refine z5 fun K hK => ?_; simp (maxSteps := 4000000) only [go_sem]; refine hK _ ?_; clear hK K) | refine z13 ?_ | refine z15 ?_ | refine z10 ?_ | refine z8 ?_ | refine z6 rfl ?_ | refine z12 ?_ | refine z3 ?_ | refine z16 ?_ | refine z11 ?_ | refine z4 ?_)
  refine z22 (fun (i : Nat) => [(8, .d (.i i))]) (fun _ => []) (fun i => i ≤ xs.length ∧ idxFrom q xs 0 = idxFrom q (xs.drop i) i) (fun i => xs.length - i) 0 ?_ ⟨Nat.zero_le _, rfl⟩ ?_
  · simp (maxSteps := 4000000) only [go_sem]
    refine z19 [] ?_ ?_ rfl rfl <;> simp [lessT, lessM, lessB, AV.less]
  · intro i ⟨hi, hq0⟩
    simp (maxSteps := 4000000) only [go_sem]
    repeat (first | refine z14 ?_ | refine z9 ?_ | refine z7 ?_ | (refine z5 fun K hK => ?_; simp (maxSteps := 4000000) only [go_sem]; refine hK _ ?_; clear hK K) | refine z13 ?_ | refine z15 ?_ | refine z10 ?_ | refine z8 ?_ | refine z6 rfl ?_ | refine z12 ?_ | refine z3 ?_ | refine z16 ?_ | refine z11 ?_ | refine z4 ?_)
    refine z20 rfl (fun hb => ?_) (fun hb => ?_)
    · have hlt : i < xs.length := by simpa using hb
      have hw : IntKind.i64.wrap ((i : Int) + 1) = ((i + 1 : Nat) : Int) := by rw [z23 (by omega)]; simp
      obtain ⟨s, hs⟩ : ∃ s, xs[i]? = some s := ⟨_, List.getElem?_eq_getElem hlt⟩
      rw [z30 hs, idxFrom] at hq0
      repeat (first | refine z14 ?_ | refine z9 ?_ | refine z7 ?_ | (refine z5 fun K hK => ?_; simp (maxSteps := 4000000) only [go_sem]; refine hK _ ?_; clear hK K) | refine z13 ?_ | refine z15 ?_ | refine z10 ?_ | refine z8 ?_ | refine z6 rfl ?_ | refine z12 ?_ | refine z3 ?_ | refine z16 ?_ | refine z11 ?_ | refine z4 ?_)
      refine z5 fun K hK => ?_
      simp (maxSteps := 4000000) only [go_sem, hs, List.getElem?_map, z35 hs, hw]
      refine ⟨_, .lent (hf := hq s (List.mem_of_getElem? hs)) (hd := z28 _ _ _ _ rfl) (hr := rfl), ?_⟩
      simp (maxSteps := 4000000) only [go_sem]
      refine hK _ ?_
      clear hK K
      refine z20 rfl (fun hc => ?_) (fun hc => ?_)
      · rw [hc, if_pos rfl] at hq0
        repeat (first | refine z14 ?_ | refine z9 ?_ | refine z7 ?_ | (refine z5 fun K hK => ?_; simp (maxSteps := 4000000) only [go_sem]; refine hK _ ?_; clear hK K) | refine z13 ?_ | refine z15 ?_ | refine z10 ?_ | refine z8 ?_ | refine z6 rfl ?_ | refine z12 ?_ | refine z3 ?_ | refine z16 ?_ | refine z11 ?_ | refine z4 ?_)
        simp (maxSteps := 4000000) only [go_sem, hq0]
      · rw [hc] at hq0
        repeat (first | refine z14 ?_ | refine z9 ?_ | refine z7 ?_ | (refine z5 fun K hK => ?_; simp (maxSteps := 4000000) only [go_sem, hw]; refine hK _ ?_; clear hK K) | refine z13 ?_ | refine z15 ?_ | refine z10 ?_ | refine z8 ?_ | refine z6 rfl ?_ | refine z12 ?_ | refine z3 ?_ | refine z16 ?_ | refine z11 ?_ | refine z4 ?_)
        refine ⟨rfl, i + 1, ?_, ⟨hlt, hq0⟩, by omega⟩
        refine z19 [] ?_ ?_ rfl rfl <;> simp [lessT, lessM, lessB, AV.less]
    · have he : i = xs.length := by (have : ¬ i < xs.length := by simpa using hb); omega
      subst he
      repeat (first | refine z14 ?_ | refine z9 ?_ | refine z7 ?_ | (refine z5 fun K hK => ?_; simp (maxSteps := 4000000) only [go_sem]; refine hK _ ?_; clear hK K) | refine z13 ?_ | refine z15 ?_ | refine z10 ?_ | refine z8 ?_ | refine z6 rfl ?_ | refine z12 ?_ | refine z3 ?_ | refine z16 ?_ | refine z11 ?_ | refine z4 ?_)
      simp (maxSteps := 4000000) only [go_sem, hq0, List.drop_length, idxFrom]
theorem zf154 (xs : List (List Hour)) (g : Nat) (caps : List DV) (q : (List Hour) → Bool) (hq : ∀ s ∈ xs, Fn Tryz.prog g (.sl (hourRows s) :: caps) (.bool (q s))) (hl : xs.length < 2 ^ 62) : Fn Tryz.prog 154 [.sl (scenRows xs), .fn g caps] (.bool (xs.any q)) := by
  refine z21 9 Tryz.call154 Tryz.func154 rfl (by decide) fun J => ?_
  simp (maxSteps := 4000000) only [go_sem, St.start, Tryz.ntmps154, Tryz.results154]
  repeat (first | refine z14 ?_ | refine z9 ?_ | refine z7 ?_ | (refine z5 fun K hK => ?_; simp (maxSteps := 4000000) only [go_sem]; (repeat (first | (refine ⟨_, .lent (hf := zf175 xs g caps q hq hl) (hd := rfl) (hr := rfl), ?_⟩; simp (maxSteps := 4000000) only [go_sem]) | (refine ⟨_, .given (hf := zf175 xs g caps q hq hl) (hd := rfl) (ha := rfl), ?_⟩; simp (maxSteps := 4000000) only [go_sem]))); refine hK _ ?_; clear hK K) | refine z13 ?_ | refine z15 ?_ | refine z10 ?_ | refine z8 ?_ | refine z6 rfl ?_ | refine z12 ?_ | refine z3 ?_ | refine z16 ?_ | refine z11 ?_ | refine z4 ?_)
  simp (maxSteps := 4000000) only [go_sem, z34]
def weatherB (g : Grid) (m : List Sky) : Bool := g.scen.any fun l => eqAll l m
def levsTo (p : Plant) (burn : List Int) (skies : List Sky) (k : Nat) : List Int := (List.range k).map fun j => lvAt p burn skies (j + 1)
def lostTo (p : Plant) (burn : List Int) (skies : List Sky) : Nat → Int
  | 0 => 0
  | k + 1 => wr (lostTo p burn skies k + lostAt p burn skies k)
def levelsE (p : Plant) (burn : List Int) (m : List Sky) : Int := if openE p [burn] = 0 then (if weatherB (gridOf p) m then 0 else 102) else openE p [burn]
def levelsP (p : Plant) (burn : List Int) (m : List Sky) : List Int × Int × Int :=
  if levelsE p burn m = 0 then (levsTo p burn m m.length, lostTo p burn m m.length, 0) else ([], 0, levelsE p burn m)
def lastsP (p : Plant) (burn : List Int) : Int × Int := if openE p [burn] = 0 then ((hardF (gridOf p) burn).2, 0) else (0, openE p [burn])
def worstP (p : Plant) (burn : List Int) : List Sky × Int :=
  if openE p [burn] = 0 then (if (hardF (gridOf p) burn).2 = (gridOf p).hours then ([], 3) else ((hardF (gridOf p) burn).1, 0)) else ([], openE p [burn])
end Go.Ab
namespace Go.Ab
open Go.RowKit Go.Proofs
set_option maxHeartbeats 8000000
set_option maxRecDepth 40000
attribute [local irreducible] WalkL Walk
def exH (lo hi : Int) : Hour := ⟨⟨lo, hi⟩, ⟨0, 0⟩, ⟨0, 10⟩⟩
def exF : List (List Hour) := [[exH 10 20, exH 10 20, exH 10 20, exH 10 20, exH 30 60, exH 30 60], [exH 15 45, exH 15 45, exH 10 20, exH 10 20, exH 10 20, exH 10 20]]
def exP : Plant := ⟨exF, [], [0, 40, 80, 80, 40, 0], 1, 12, 50, 100, 150, 20, 50, 2, 9, [60, 60, 60, 60, 90, 90]⟩
end Go.Ab
namespace Go.Ab
open Go.RowKit Go.Proofs
set_option maxHeartbeats 8000000
set_option maxRecDepth 20000
attribute [local irreducible] WalkL Walk
def farL (F : List (List Hour)) : Bool := F.any fun l => decide ((l.length : Int) > 50)
def far5 (F : List (List Hour)) (seen : List Sight) : Bool :=
  (decide ((F.length : Int) > 8) || decide ((seen.length : Int) > 22)) || (farL F || (decide (foreF F = 0) && (decide ((F.length : Int) > 4) || decide (((hd0 F).length : Int) > 12))))
theorem foreF_vals (F : List (List Hour)) : foreF F = 0 ∨ foreF F = 50 := by
  unfold foreF
  split
  · exact Or.inr rfl
  · exact Or.inl rfl
theorem foreF_bad {F : List (List Hour)} (h : foreF F = 0) : badF F = false := by
  cases hb : badF F with
  | false => rfl
  | true => simp [foreF, hb] at h
theorem zf54 (F : List (List Hour)) (seen : List Sight) (hs : ForeSmall F) : Fn Tryz.prog 54 [.agg [.sl (scenRows F)], .sl (sightRows seen)] (.bool (far5 F seen)) := by
  have h1 := hs.scen
  have h86 := zf26 F hs
  cases q1 : decide ((F.length : Int) > 8)
  case true =>
    refine z21 44 Tryz.call54 Tryz.func54 rfl (by decide) fun J => ?_
    simp (maxSteps := 4000000) only [go_sem, St.start, Tryz.ntmps54, Tryz.results54]
    repeat (first | refine z18 rfl ?_ | refine z17 rfl ?_ | refine z14 ?_ | refine z9 ?_ | refine z7 ?_ | (refine z5 fun K hK => ?_; simp (maxSteps := 4000000) only [go_sem, q1]; refine hK _ ?_; clear hK K) | refine z13 ?_ | refine z15 ?_ | refine z10 ?_ | refine z8 ?_ | refine z6 rfl ?_ | refine z12 ?_ | refine z3 ?_ | refine z16 ?_ | refine z11 ?_ | refine z4 ?_)
    simp (maxSteps := 4000000) only [go_sem, far5, q1]
  case false =>
  cases q2 : decide ((seen.length : Int) > 22)
  case true =>
    refine z21 44 Tryz.call54 Tryz.func54 rfl (by decide) fun J => ?_
    simp (maxSteps := 4000000) only [go_sem, St.start, Tryz.ntmps54, Tryz.results54]
    repeat (first | refine z18 rfl ?_ | refine z17 rfl ?_ | refine z14 ?_ | refine z9 ?_ | refine z7 ?_ | (refine z5 fun K hK => ?_; simp (maxSteps := 4000000) only [go_sem, q1, q2]; refine hK _ ?_; clear hK K) | refine z13 ?_ | refine z15 ?_ | refine z10 ?_ | refine z8 ?_ | refine z6 rfl ?_ | refine z12 ?_ | refine z3 ?_ | refine z16 ?_ | refine z11 ?_ | refine z4 ?_)
    simp (maxSteps := 4000000) only [go_sem, far5, q1, q2]
  case false =>
  refine z21 44 Tryz.call54 Tryz.func54 rfl (by decide) fun J => ?_
  simp (maxSteps := 4000000) only [go_sem, St.start, Tryz.ntmps54, Tryz.results54]
  repeat (first | refine z18 rfl ?_ | refine z17 rfl ?_ | refine z14 ?_ | refine z9 ?_ | refine z7 ?_ | (refine z5 fun K hK => ?_; simp (maxSteps := 4000000) only [go_sem, q1, q2]; refine hK _ ?_; clear hK K) | refine z13 ?_ | refine z15 ?_ | refine z10 ?_ | refine z8 ?_ | refine z6 rfl ?_ | refine z12 ?_ | refine z3 ?_ | refine z16 ?_ | refine z11 ?_ | refine z4 ?_)
  refine z22 (fun (i : Nat) => [(5, .d (.i i))]) (fun _ => []) (fun i => i ≤ F.length ∧ farL (F.take i) = false) (fun i => F.length - i) 0 ?_ ⟨Nat.zero_le _, rfl⟩ ?_
  · simp (maxSteps := 4000000) only [go_sem]
    refine z19 [] ?_ ?_ rfl rfl <;> simp [lessT, lessM, lessB, AV.less]
  · intro i ⟨hi, hall⟩
    simp (maxSteps := 4000000) only [go_sem]
    repeat (first | refine z14 ?_ | refine z9 ?_ | refine z7 ?_ | (refine z5 fun K hK => ?_; simp (maxSteps := 4000000) only [go_sem]; refine hK _ ?_; clear hK K) | refine z13 ?_ | refine z15 ?_ | refine z10 ?_ | refine z8 ?_ | refine z6 rfl ?_ | refine z12 ?_ | refine z3 ?_ | refine z16 ?_ | refine z11 ?_ | refine z4 ?_)
    refine z20 rfl (fun hb => ?_) (fun hb => ?_)
    · have hlt : i < F.length := by simpa using hb
      have hw : IntKind.i64.wrap ((i : Int) + 1) = ((i + 1 : Nat) : Int) := by rw [z23 (by omega)]; simp
      obtain ⟨l, hx⟩ : ∃ l, F[i]? = some l := ⟨_, List.getElem?_eq_getElem hlt⟩
      have g1 := z35 hx
      cases q3 : decide ((l.length : Int) > 50)
      · repeat (first | refine z18 rfl ?_ | refine z17 rfl ?_ | refine z14 ?_ | refine z9 ?_ | refine z7 ?_ | (refine z5 fun K hK => ?_; simp (maxSteps := 4000000) only [go_sem, g1, q3, hw]; refine hK _ ?_; clear hK K) | refine z13 ?_ | refine z15 ?_ | refine z10 ?_ | refine z8 ?_ | refine z6 rfl ?_ | refine z12 ?_ | refine z3 ?_ | refine z16 ?_ | refine z11 ?_ | refine z4 ?_)
        refine ⟨rfl, i + 1, ?_, ⟨hlt, any_take_succ hx hall q3⟩, by omega⟩
        refine z19 [] ?_ ?_ rfl rfl <;> simp [lessT, lessM, lessB, AV.less]
      · have e : farL F = true := any_of_get hx q3
        repeat (first | refine z18 rfl ?_ | refine z17 rfl ?_ | refine z14 ?_ | refine z9 ?_ | refine z7 ?_ | (refine z5 fun K hK => ?_; simp (maxSteps := 4000000) only [go_sem, g1, q3]; refine hK _ ?_; clear hK K) | refine z13 ?_ | refine z15 ?_ | refine z10 ?_ | refine z8 ?_ | refine z6 rfl ?_ | refine z12 ?_ | refine z3 ?_ | refine z16 ?_ | refine z11 ?_ | refine z4 ?_)
        simp (maxSteps := 4000000) only [go_sem, far5, e]
    · have he : i = F.length := by (have : ¬ i < F.length := by simpa using hb); omega
      subst he
      rw [List.take_length] at hall
      rcases foreF_vals F with e0 | e0
      · rw [e0] at h86
        have hg := z155.1 (foreF_bad e0)
        have h0 := z72 (F := F) (by have := hg.scen; omega)
        have h71 := zf52 F _ h0
        change Fn Tryz.prog 52 _ (.i (hd0 F).length) at h71
        cases q4 : decide ((F.length : Int) > 4)
        · repeat (first | refine z18 rfl ?_ | refine z17 rfl ?_ | refine z14 ?_ | refine z9 ?_ | refine z7 ?_ | (refine z5 fun K hK => ?_; simp (maxSteps := 4000000) only [go_sem, q4]; (repeat (first | (refine ⟨_, .lent (hf := h86) (hd := rfl) (hr := rfl), ?_⟩; simp (maxSteps := 4000000) only [go_sem, q4]) | (refine ⟨_, .lent (hf := h71) (hd := rfl) (hr := rfl), ?_⟩; simp (maxSteps := 4000000) only [go_sem, q4]) | (refine ⟨_, .given (hf := h86) (hd := rfl) (ha := rfl), ?_⟩; simp (maxSteps := 4000000) only [go_sem, q4]) | (refine ⟨_, .given (hf := h71) (hd := rfl) (ha := rfl), ?_⟩; simp (maxSteps := 4000000) only [go_sem, q4]))); refine hK _ ?_; clear hK K) | refine z13 ?_ | refine z15 ?_ | refine z10 ?_ | refine z8 ?_ | refine z6 rfl ?_ | refine z12 ?_ | refine z3 ?_ | refine z16 ?_ | refine z11 ?_ | refine z4 ?_)
          simp (maxSteps := 4000000) only [go_sem, far5, q1, q2, hall, e0, q4]
        · repeat (first | refine z18 rfl ?_ | refine z17 rfl ?_ | refine z14 ?_ | refine z9 ?_ | refine z7 ?_ | (refine z5 fun K hK => ?_; simp (maxSteps := 4000000) only [go_sem, q4]; (repeat (first | (refine ⟨_, .lent (hf := h86) (hd := rfl) (hr := rfl), ?_⟩; simp (maxSteps := 4000000) only [go_sem, q4]) | (refine ⟨_, .lent (hf := h71) (hd := rfl) (hr := rfl), ?_⟩; simp (maxSteps := 4000000) only [go_sem, q4]) | (refine ⟨_, .given (hf := h86) (hd := rfl) (ha := rfl), ?_⟩; simp (maxSteps := 4000000) only [go_sem, q4]) | (refine ⟨_, .given (hf := h71) (hd := rfl) (ha := rfl), ?_⟩; simp (maxSteps := 4000000) only [go_sem, q4]))); refine hK _ ?_; clear hK K) | refine z13 ?_ | refine z15 ?_ | refine z10 ?_ | refine z8 ?_ | refine z6 rfl ?_ | refine z12 ?_ | refine z3 ?_ | refine z16 ?_ | refine z11 ?_ | refine z4 ?_)
          simp (maxSteps := 4000000) only [go_sem, far5, q1, q2, hall, e0, q4]
      · rw [e0] at h86
        repeat (first | refine z18 rfl ?_ | refine z17 rfl ?_ | refine z14 ?_ | refine z9 ?_ | refine z7 ?_ | (refine z5 fun K hK => ?_; simp (maxSteps := 4000000) only [go_sem]; (repeat (first | (refine ⟨_, .lent (hf := h86) (hd := rfl) (hr := rfl), ?_⟩; simp (maxSteps := 4000000) only [go_sem]) | (refine ⟨_, .given (hf := h86) (hd := rfl) (ha := rfl), ?_⟩; simp (maxSteps := 4000000) only [go_sem]))); refine hK _ ?_; clear hK K) | refine z13 ?_ | refine z15 ?_ | refine z10 ?_ | refine z8 ?_ | refine z6 rfl ?_ | refine z12 ?_ | refine z3 ?_ | refine z16 ?_ | refine z11 ?_ | refine z4 ?_)
        simp (maxSteps := 4000000) only [go_sem, far5, q1, q2, hall, e0]
def far10 (p : Plant) : Bool :=
  (far5 p.scen p.seen || (decide ((p.sun.length : Int) > 100) || decide ((p.needs.length : Int) > 100))) ||
  (decide (plantE p = 0) && (decide ((p.sun.length : Int) > 5) || (decide ((p.scen.length : Int) > 3) || decide (p.rate > 2))))
def validB (p : Plant) : Bool := !far10 p && decide (plantE p = 0)
def isBurnB (p : Plant) (l : List Int) : Bool := (l.all fun n => withinB n 0 p.rate) && (((l.length : Int) == p.sun.length) && decide (sumI l ≤ p.units))
end Go.Ab
namespace Go.Ab
open Go.RowKit Go.Proofs
set_option maxHeartbeats 8000000
set_option maxRecDepth 20000
attribute [local irreducible] WalkL Walk
def skyB (s t : Sky) : Bool := (s.wind == t.wind) && ((s.rain == t.rain) && (s.temp == t.temp))
def inAt (l : List Hour) (m : List Sky) (j : Nat) : Bool := insideB (skyAt m j) (hourAt l (j : Int))
def inTo (l : List Hour) (m : List Sky) : Nat → Bool
  | 0 => true
  | k + 1 => inTo l m k && inAt l m k
def seenEq (seen : List Sight) (m : List Sky) : Bool := seen.all fun s => skyB (skyAt m s.hour.toNat) s.sky
def scenAt (F : List (List Hour)) (k : Int) : List Hour := F.getD k.toNat []
def weB (F : List (List Hour)) (seen : List Sight) (m : List Sky) : Bool :=
  ((m.length : Int) == (hd0 F).length) && (seenEq seen m && (numsOf (possL F seen)).any fun k => inTo (scenAt F k) m m.length)
end Go.Ab
namespace Go.Ab
open Go.RowKit Go.Proofs
set_option maxHeartbeats 8000000
set_option maxRecDepth 20000
attribute [local irreducible] WalkL Walk
end Go.Ab
namespace Go.Ab
open Go.RowKit Go.Proofs
set_option maxHeartbeats 4000000
set_option maxRecDepth 20000
structure PlantGood (p : Plant) : Prop where
  fore : ForeGood p.scen
  sights : sightsB (hd0 p.scen).length p.seen = true
  poss : possL p.scen p.seen ≠ []
  sun : p.sun.length = (hd0 p.scen).length
  needs : p.needs.length = (hd0 p.scen).length
  sunIn : ∀ x ∈ p.sun, 0 ≤ x ∧ x ≤ 10000
  needsIn : ∀ x ∈ p.needs, 0 ≤ x ∧ x ≤ 20000
  gain : 0 ≤ p.gain ∧ p.gain ≤ 100
  start : 0 ≤ p.start ∧ p.start ≤ p.stop ∧ p.stop ≤ 200
  capacity : 0 ≤ p.capacity ∧ p.capacity ≤ 100000
  charge : 0 ≤ p.charge ∧ p.charge ≤ p.capacity
  reserve : 0 ≤ p.reserve ∧ p.reserve ≤ p.capacity
  gas : 0 ≤ p.gas ∧ p.gas ≤ 10000
  rate : 0 ≤ p.rate ∧ p.rate ≤ 10
  units : 0 ≤ p.units ∧ p.units ≤ 200
def SkyOk (s : Sky) : Prop := (0 ≤ s.wind ∧ s.wind ≤ 200) ∧ (0 ≤ s.rain ∧ s.rain ≤ 100)
def yieldI (p : Plant) (h : Int) (s : Sky) : Int := (getI p.sun h * (100 - s.rain)) / 100 + if withinB s.wind p.start p.stop then p.gain * s.wind else 0
theorem z124 {l : List Int} {a b : Int} (h : ∀ x ∈ l, a ≤ x ∧ x ≤ b) (ha : a ≤ 0 ∧ 0 ≤ b) (i : Int) : a ≤ getI l i ∧ getI l i ≤ b := by
  unfold getI
  rw [List.getD_eq_getElem?_getD]
  cases hx : l[i.toNat]? with
  | none => exact ha
  | some x => exact h x (List.mem_of_getElem? hx)
end Go.Ab
namespace Go.Ab
open Go.RowKit Go.Proofs
set_option maxHeartbeats 4000000
set_option maxRecDepth 20000
def levI (c cap : Int) (net : Nat → Int) : Nat → Int
  | 0 => c
  | k + 1 => min (levI c cap net k + net k) cap
def pre (b : Nat → Int) : Nat → Int
  | 0 => 0
  | k + 1 => pre b k + b k
def LastsAll (p : Plant) (burn : List Int) : Prop := ∀ l ∈ (gridOf p).scen, ∀ j < p.sun.length, p.reserve ≤ lvAt p burn (leastW p l) (j + 1)
def preB (b : List Int) (k : Nat) : Int := pre (fun j => getI b j) k
structure Step (p : Plant) (b : List Int) (u : Int) : Prop where
  len : b.length = p.sun.length
  rng : ∀ x ∈ b, 0 ≤ x ∧ x ≤ p.rate
  sum : sumI b = u
  top : u ≤ p.units
  zero : ∀ j : Nat, getI b (j : Int) ≠ 0 → (j : Int) ≤ (hardF (gridOf p) b).2
  late : ∀ c, isBurnB p c = true → LastsAll p c → ∀ j ≤ p.sun.length, preB b j ≤ preB c j
end Go.Ab
namespace Go.Ab
open Go.RowKit Go.Proofs
set_option maxHeartbeats 4000000
set_option maxRecDepth 20000
attribute [local irreducible] WalkL Walk
structure Limits where
  wind : Int
  rain : Int
  temp : Span
def Limits.row (l : Limits) : List DV := [.i l.wind, .i l.rain, .i l.temp.lo, .i l.temp.hi]
def limB (l : Limits) : Bool := withinB l.wind 0 200 && (withinB l.rain 0 100 && orderedB l.temp (-50) 50)
theorem zf84 (l : Limits) : Fn Tryz.prog 84 [.agg l.row] (.bool (limB l)) := by
  have h1 := zf51 l.wind 0 200
  have h2 := zf51 l.rain 0 100
  have h3 := zf53 l.temp (-50) 50
  rw [Span.row] at h3
  obtain ⟨b1, e1⟩ : ∃ b, b = withinB l.wind 0 200 := ⟨_, rfl⟩
  obtain ⟨b2, e2⟩ : ∃ b, b = withinB l.rain 0 100 := ⟨_, rfl⟩
  obtain ⟨b3, e3⟩ : ∃ b, b = orderedB l.temp (-50) 50 := ⟨_, rfl⟩
  rw [limB, ← e1, ← e2, ← e3]
  rw [← e1] at h1
  rw [← e2] at h2
  rw [← e3] at h3
  refine z21 16 Tryz.call84 Tryz.func84 rfl (by decide) fun J => ?_
  simp (maxSteps := 4000000) only [go_sem, St.start, Tryz.ntmps84, Tryz.results84, Limits.row]
  cases b1 <;> cases b2
  all_goals
    repeat (first | refine z14 ?_ | refine z9 ?_ | refine z7 ?_ | (refine z5 fun K hK => ?_; simp (maxSteps := 4000000) only [go_sem]; (repeat (first | (refine ⟨_, .lent (hf := h1) (hd := rfl) (hr := rfl), ?_⟩; simp (maxSteps := 4000000) only [go_sem]) | (refine ⟨_, .lent (hf := h2) (hd := rfl) (hr := rfl), ?_⟩; simp (maxSteps := 4000000) only [go_sem]) | (refine ⟨_, .lent (hf := h3) (hd := rfl) (hr := rfl), ?_⟩; simp (maxSteps := 4000000) only [go_sem]) | (refine ⟨_, .given (hf := h1) (hd := rfl) (ha := rfl), ?_⟩; simp (maxSteps := 4000000) only [go_sem]) | (refine ⟨_, .given (hf := h2) (hd := rfl) (ha := rfl), ?_⟩; simp (maxSteps := 4000000) only [go_sem]) | (refine ⟨_, .given (hf := h3) (hd := rfl) (ha := rfl), ?_⟩; simp (maxSteps := 4000000) only [go_sem]))); refine hK _ ?_; clear hK K) | refine z13 ?_ | refine z15 ?_ | refine z10 ?_ | refine z8 ?_ | refine z6 rfl ?_ | refine z12 ?_ | refine z3 ?_ | refine z16 ?_ | refine z11 ?_ | refine z4 ?_)
    simp (maxSteps := 4000000) only [go_sem]
theorem zf148 (l : Limits) : Fn Tryz.prog 148 [.agg l.row] (.bool (limB l)) := by
  have h1 := z291 l.wind 0 200
  have h2 := z291 l.rain 0 100
  have h3 := zf173 l.temp (-50) 50
  rw [Span.row] at h3
  obtain ⟨b1, e1⟩ : ∃ b, b = withinB l.wind 0 200 := ⟨_, rfl⟩
  obtain ⟨b2, e2⟩ : ∃ b, b = withinB l.rain 0 100 := ⟨_, rfl⟩
  obtain ⟨b3, e3⟩ : ∃ b, b = orderedB l.temp (-50) 50 := ⟨_, rfl⟩
  rw [limB, ← e1, ← e2, ← e3]
  rw [← e1] at h1
  rw [← e2] at h2
  rw [← e3] at h3
  refine z21 19 Tryz.call148 Tryz.func148 rfl (by decide) fun J => ?_
  simp (maxSteps := 4000000) only [go_sem, St.start, Tryz.ntmps148, Tryz.results148, Limits.row]
  cases b1 <;> cases b2
  all_goals
    repeat (first | refine z14 ?_ | refine z9 ?_ | refine z7 ?_ | (refine z5 fun K hK => ?_; simp (maxSteps := 4000000) only [go_sem]; (repeat (first | (refine ⟨_, .lent (hf := h1) (hd := rfl) (hr := rfl), ?_⟩; simp (maxSteps := 4000000) only [go_sem]) | (refine ⟨_, .lent (hf := h2) (hd := rfl) (hr := rfl), ?_⟩; simp (maxSteps := 4000000) only [go_sem]) | (refine ⟨_, .lent (hf := h3) (hd := rfl) (hr := rfl), ?_⟩; simp (maxSteps := 4000000) only [go_sem]) | (refine ⟨_, .given (hf := h1) (hd := rfl) (ha := rfl), ?_⟩; simp (maxSteps := 4000000) only [go_sem]) | (refine ⟨_, .given (hf := h2) (hd := rfl) (ha := rfl), ?_⟩; simp (maxSteps := 4000000) only [go_sem]) | (refine ⟨_, .given (hf := h3) (hd := rfl) (ha := rfl), ?_⟩; simp (maxSteps := 4000000) only [go_sem]))); refine hK _ ?_; clear hK K) | refine z13 ?_ | refine z15 ?_ | refine z10 ?_ | refine z8 ?_ | refine z6 rfl ?_ | refine z12 ?_ | refine z3 ?_ | refine z16 ?_ | refine z11 ?_ | refine z4 ?_)
    simp (maxSteps := 4000000) only [go_sem]
def limE (l : Limits) : Int := if limB l then 0 else 52
theorem zf112 (l : Limits) : Fn Tryz.prog 112 [.agg l.row] (.i (limE l)) := by
  have h := zf148 l
  unfold limE
  obtain ⟨b, eb⟩ : ∃ b, b = limB l := ⟨_, rfl⟩
  rw [← eb] at h ⊢
  rw [Limits.row] at h
  cases b
  all_goals
    refine z21 6 Tryz.call112 Tryz.func112 rfl (by decide) fun J => ?_
    simp (maxSteps := 4000000) only [go_sem, St.start, Tryz.ntmps112, Tryz.results112, Limits.row]
    repeat (first | refine z18 rfl ?_ | refine z17 rfl ?_ | refine z14 ?_ | refine z9 ?_ | refine z7 ?_ | (refine z5 fun K hK => ?_; simp (maxSteps := 4000000) only [go_sem]; (repeat (first | (refine ⟨_, .lent (hf := h) (hd := rfl) (hr := rfl), ?_⟩; simp (maxSteps := 4000000) only [go_sem]) | (refine ⟨_, .given (hf := h) (hd := rfl) (ha := rfl), ?_⟩; simp (maxSteps := 4000000) only [go_sem]))); refine hK _ ?_; clear hK K) | refine z13 ?_ | refine z15 ?_ | refine z10 ?_ | refine z8 ?_ | refine z6 rfl ?_ | refine z12 ?_ | refine z3 ?_ | refine z16 ?_ | refine z11 ?_ | refine z4 ?_)
    simp (maxSteps := 4000000) only [go_sem]
def keptB (s : Sky) (l : Limits) : Bool := decide (s.wind ≤ l.wind) && (decide (s.rain ≤ l.rain) && withinB s.temp l.temp.lo l.temp.hi)
def alwaysB (l : Limits) (h : Hour) : Bool := decide (h.wind.hi ≤ l.wind) && (decide (h.rain.hi ≤ l.rain) && (decide (l.temp.lo ≤ h.temp.lo) && decide (h.temp.hi ≤ l.temp.hi)))
def everB (l : Limits) (h : Hour) : Bool := decide (h.wind.lo ≤ l.wind) && (decide (h.rain.lo ≤ l.rain) && decide (max l.temp.lo h.temp.lo ≤ min l.temp.hi h.temp.hi))
theorem zf77 (l : Limits) (h : Hour) : Fn Tryz.prog 77 [.agg l.row, .agg h.row] (.bool (alwaysB l h)) := by
  refine z21 41 Tryz.call77 Tryz.func77 rfl (by decide) fun J => ?_
  simp (maxSteps := 4000000) only [go_sem, St.start, Tryz.ntmps77, Tryz.results77, Limits.row, Hour.row]
  cases q1 : decide (h.wind.hi ≤ l.wind) <;> cases q2 : decide (h.rain.hi ≤ l.rain) <;> cases q3 : decide (l.temp.lo ≤ h.temp.lo)
  all_goals
    repeat (first | refine z14 ?_ | refine z9 ?_ | refine z7 ?_ | (refine z5 fun K hK => ?_; simp (maxSteps := 4000000) only [go_sem, q1, q2, q3]; refine hK _ ?_; clear hK K) | refine z13 ?_ | refine z15 ?_ | refine z10 ?_ | refine z8 ?_ | refine z6 rfl ?_ | refine z12 ?_ | refine z3 ?_ | refine z16 ?_ | refine z11 ?_ | refine z4 ?_)
    simp (maxSteps := 4000000) only [go_sem, alwaysB, q1, q2, q3]
theorem zf76 (l : Limits) (h : Hour) : Fn Tryz.prog 76 [.agg l.row, .agg h.row] (.bool (everB l h)) := by
  refine z21 40 Tryz.call76 Tryz.func76 rfl (by decide) fun J => ?_
  simp (maxSteps := 4000000) only [go_sem, St.start, Tryz.ntmps76, Tryz.results76, Limits.row, Hour.row]
  cases q1 : decide (h.wind.lo ≤ l.wind) <;> cases q2 : decide (h.rain.lo ≤ l.rain)
  all_goals
    repeat (first | refine z14 ?_ | refine z9 ?_ | refine z7 ?_ | (refine z5 fun K hK => ?_; simp (maxSteps := 4000000) only [go_sem, q1, q2]; refine hK _ ?_; clear hK K) | refine z13 ?_ | refine z15 ?_ | refine z10 ?_ | refine z8 ?_ | refine z6 rfl ?_ | refine z12 ?_ | refine z3 ?_ | refine z16 ?_ | refine z11 ?_ | refine z4 ?_)
    simp (maxSteps := 4000000) only [go_sem, everB, q1, q2]
theorem zf114 (l : Limits) (hs : List Hour) (i : Nat) (h : Hour) (hi : hs[i]? = some h) : Fn Tryz.prog 114 [.sl (hourRows hs), .i i, .ptr l.row 0] (.bool (alwaysB l h)) := by
  have g1 := z44 hi
  have h43 := zf77 l h
  rw [Limits.row, Hour.row] at h43
  refine z21 12 Tryz.call114 Tryz.func114 rfl (by decide) fun J => ?_
  simp (maxSteps := 4000000) only [go_sem, St.start, Tryz.ntmps114, Tryz.results114, Limits.row]
  repeat (first | refine z14 ?_ | refine z9 ?_ | refine z7 ?_ | (refine z5 fun K hK => ?_; simp (maxSteps := 4000000) only [go_sem]; refine hK _ ?_; clear hK K) | refine z13 ?_ | refine z15 ?_ | refine z10 ?_ | refine z8 ?_ | refine z6 rfl ?_ | refine z12 ?_ | refine z3 ?_ | refine z16 ?_ | refine z11 ?_ | refine z4 ?_)
  refine z24 (by kernel_rfl) (by kernel_rfl) fun K hK => ?_
  simp (maxSteps := 4000000) only [go_sem, g1, Hour.row]
  refine ⟨_, .fn (hf := h43) (hd := rfl) (hr := .inr rfl), ?_⟩
  simp (maxSteps := 4000000) only [go_sem]
  refine ⟨by kernel_rfl, hK _ ?_⟩
  clear hK K
  repeat (first | refine z14 ?_ | refine z9 ?_ | refine z7 ?_ | (refine z5 fun K hK => ?_; simp (maxSteps := 4000000) only [go_sem]; refine hK _ ?_; clear hK K) | refine z13 ?_ | refine z15 ?_ | refine z10 ?_ | refine z8 ?_ | refine z6 rfl ?_ | refine z12 ?_ | refine z3 ?_ | refine z16 ?_ | refine z11 ?_ | refine z4 ?_)
  simp (maxSteps := 4000000) only [go_sem]
theorem zf116 (l : Limits) (hs : List Hour) (i : Nat) (h : Hour) (hi : hs[i]? = some h) : Fn Tryz.prog 116 [.sl (hourRows hs), .i i, .ptr l.row 0] (.bool (everB l h)) := by
  have g1 := z44 hi
  have h46 := zf76 l h
  rw [Limits.row, Hour.row] at h46
  refine z21 12 Tryz.call116 Tryz.func116 rfl (by decide) fun J => ?_
  simp (maxSteps := 4000000) only [go_sem, St.start, Tryz.ntmps116, Tryz.results116, Limits.row]
  repeat (first | refine z14 ?_ | refine z9 ?_ | refine z7 ?_ | (refine z5 fun K hK => ?_; simp (maxSteps := 4000000) only [go_sem]; refine hK _ ?_; clear hK K) | refine z13 ?_ | refine z15 ?_ | refine z10 ?_ | refine z8 ?_ | refine z6 rfl ?_ | refine z12 ?_ | refine z3 ?_ | refine z16 ?_ | refine z11 ?_ | refine z4 ?_)
  refine z24 (by kernel_rfl) (by kernel_rfl) fun K hK => ?_
  simp (maxSteps := 4000000) only [go_sem, g1, Hour.row]
  refine ⟨_, .fn (hf := h46) (hd := rfl) (hr := .inr rfl), ?_⟩
  simp (maxSteps := 4000000) only [go_sem]
  refine ⟨by kernel_rfl, hK _ ?_⟩
  clear hK K
  repeat (first | refine z14 ?_ | refine z9 ?_ | refine z7 ?_ | (refine z5 fun K hK => ?_; simp (maxSteps := 4000000) only [go_sem]; refine hK _ ?_; clear hK K) | refine z13 ?_ | refine z15 ?_ | refine z10 ?_ | refine z8 ?_ | refine z6 rfl ?_ | refine z12 ?_ | refine z3 ?_ | refine z16 ?_ | refine z11 ?_ | refine z4 ?_)
  simp (maxSteps := 4000000) only [go_sem]
def hullS (a b : Span) : Span := ⟨min a.lo b.lo, max a.hi b.hi⟩
theorem zf111 (a b : Span) : Fn Tryz.prog 111 [.agg a.row, .agg b.row] (.agg (hullS a b).row) := by
  refine z21 16 Tryz.call111 Tryz.func111 rfl (by decide) fun J => ?_
  simp (maxSteps := 4000000) only [go_sem, St.start, Tryz.ntmps111, Tryz.results111, Span.row]
  repeat (first | refine z14 ?_ | refine z9 ?_ | refine z7 ?_ | (refine z5 fun K hK => ?_; simp (maxSteps := 4000000) only [go_sem]; refine hK _ ?_; clear hK K) | refine z13 ?_ | refine z15 ?_ | refine z10 ?_ | refine z8 ?_ | refine z6 rfl ?_ | refine z12 ?_ | refine z3 ?_ | refine z16 ?_ | refine z11 ?_ | refine z4 ?_)
  simp (maxSteps := 4000000) only [go_sem, hullS, Span.row]
end Go.Ab
