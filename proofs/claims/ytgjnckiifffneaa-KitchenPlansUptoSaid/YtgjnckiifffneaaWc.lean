/- A walk engine over abstract states, and the contracts of the functions that the statement reaches: part 3. -/
import Derived.Test.YtgjnckiifffneaaWb
import Derived.Test.YtgjnckiifffneaaProg
import Derived.ChangeArms
import Derived.Test.YtgjnckiifffneaaRows
import Derived.JoinedCond
import Derived.Carry
import Derived.RowKit
set_option linter.unusedVariables false
set_option linter.unusedSimpArgs false
set_option linter.unnecessarySimpa false
/- Drawn regions in which something is appended: what named the array before is forgotten. -/
namespace Go.Ab
open Go.RowKit
def AV.whole : AV → Bool
  | .undef => false
  | .agg cs | .tup cs | .fn _ cs => AV.wholes cs
  | _ => true
where AV.wholes : List AV → Bool
  | [] => true
  | x :: xs => x.whole && AV.wholes xs
def AV.lose (n : Nat) (x : AV) : AV := x.sub n fun _ => .undef
mutual
theorem lose_same (n : Nat) : ∀ (x : AV), n ∉ x.refs → x.sub n (fun _ => .undef) = x
  | .box k o, h => by simp only [AV.refs, List.mem_singleton] at h; simp only [AV.sub]; rw [if_neg (fun e => h e.symm)]
  | .elem k i o, h => by simp only [AV.refs, List.mem_singleton] at h; simp only [AV.sub]; rw [if_neg (fun e => h e.symm)]
  | .own k, h => by simp only [AV.refs, List.mem_singleton] at h; simp only [AV.sub]; rw [if_neg (fun e => h e.symm)]
  | .view k o l, h => by simp only [AV.refs, List.mem_singleton] at h; simp only [AV.sub]; rw [if_neg (fun e => h e.symm)]
  | .bsl k o l, h => by simp only [AV.refs, List.mem_singleton] at h; simp only [AV.sub]; rw [if_neg (fun e => h e.symm)]
  | .mp k, h => by simp only [AV.refs, List.mem_singleton] at h; simp only [AV.sub]; rw [if_neg (fun e => h e.symm)]
  | .vh k l, h => by simp only [AV.refs, List.mem_singleton] at h; simp only [AV.sub]; rw [if_neg (fun e => h e.symm)]
  | .vc k l, h => by simp only [AV.refs, List.mem_singleton] at h; simp only [AV.sub]; rw [if_neg (fun e => h e.symm)]
  | .agg cs, h => by simp only [AV.sub]; rw [z132 n cs (by simpa [AV.refs] using h)]
  | .tup cs, h => by simp only [AV.sub]; rw [z132 n cs (by simpa [AV.refs] using h)]
  | .fn f cs, h => by simp only [AV.sub]; rw [z132 n cs (by simpa [AV.refs] using h)]
  | .undef, _ => rfl
  | .void, _ => rfl
  | .d _, _ => rfl
  | .nil, _ => rfl
  | .dfull _, _ => rfl
theorem z132 (n : Nat) : ∀ (l : List AV), n ∉ AV.refs.AV.refss l → AV.sub.AV.subs n (fun _ => .undef) l = l
  | [], _ => rfl
  | x :: xs, h => by
    simp only [AV.refs.AV.refss, List.mem_append, not_or] at h
    simp only [AV.sub.AV.subs]
    rw [lose_same n x h.1, z132 n xs h.2]
end
mutual
theorem z408 (n : Nat) : ∀ (x : AV), (x.sub n (fun _ => .undef)).whole = true → n ∉ x.refs
  | .box k o, h => by
    simp only [AV.sub] at h
    split at h
    · simp [AV.whole] at h
    · rename_i hk; simp only [AV.refs, List.mem_singleton]; exact fun e => hk e.symm
  | .elem k i o, h => by
    simp only [AV.sub] at h
    split at h
    · simp [AV.whole] at h
    · rename_i hk; simp only [AV.refs, List.mem_singleton]; exact fun e => hk e.symm
  | .own k, h => by
    simp only [AV.sub] at h
    split at h
    · simp [AV.whole] at h
    · rename_i hk; simp only [AV.refs, List.mem_singleton]; exact fun e => hk e.symm
  | .view k o l, h => by
    simp only [AV.sub] at h
    split at h
    · simp [AV.whole] at h
    · rename_i hk; simp only [AV.refs, List.mem_singleton]; exact fun e => hk e.symm
  | .bsl k o l, h => by
    simp only [AV.sub] at h
    split at h
    · simp [AV.whole] at h
    · rename_i hk; simp only [AV.refs, List.mem_singleton]; exact fun e => hk e.symm
  | .mp k, h => by
    simp only [AV.sub] at h
    split at h
    · simp [AV.whole] at h
    · rename_i hk; simp only [AV.refs, List.mem_singleton]; exact fun e => hk e.symm
  | .vh k l, h => by
    simp only [AV.sub] at h
    split at h
    · simp [AV.whole] at h
    · rename_i hk; simp only [AV.refs, List.mem_singleton]; exact fun e => hk e.symm
  | .vc k l, h => by
    simp only [AV.sub] at h
    split at h
    · simp [AV.whole] at h
    · rename_i hk; simp only [AV.refs, List.mem_singleton]; exact fun e => hk e.symm
  | .dfull _, _ => by simp [AV.refs]
  | .agg cs, h => by simp only [AV.refs]; exact z141 n cs (by simpa [AV.sub, AV.whole] using h)
  | .tup cs, h => by simp only [AV.refs]; exact z141 n cs (by simpa [AV.sub, AV.whole] using h)
  | .fn f cs, h => by simp only [AV.refs]; exact z141 n cs (by simpa [AV.sub, AV.whole] using h)
  | .undef, _ => by simp [AV.refs]
  | .void, _ => by simp [AV.refs]
  | .d _, _ => by simp [AV.refs]
  | .nil, _ => by simp [AV.refs]
theorem z141 (n : Nat) : ∀ (l : List AV), AV.whole.AV.wholes (AV.sub.AV.subs n (fun _ => .undef) l) = true → n ∉ AV.refs.AV.refss l
  | [], _ => by simp [AV.refs.AV.refss]
  | x :: xs, h => by
    simp only [AV.sub.AV.subs, AV.whole.AV.wholes, Bool.and_eq_true] at h
    simp only [AV.refs.AV.refss, List.mem_append, not_or]
    exact ⟨z408 n x h.1, z141 n xs h.2⟩
end
mutual
theorem z466 (n : Nat) (f : AV → AV) : ∀ (x : AV), n ∉ x.refs → x.sub n f = x
  | .box k o, h => by simp only [AV.refs, List.mem_singleton] at h; simp only [AV.sub]; rw [if_neg (fun e => h e.symm)]
  | .elem k i o, h => by simp only [AV.refs, List.mem_singleton] at h; simp only [AV.sub]; rw [if_neg (fun e => h e.symm)]
  | .own k, h => by simp only [AV.refs, List.mem_singleton] at h; simp only [AV.sub]; rw [if_neg (fun e => h e.symm)]
  | .view k o l, h => by simp only [AV.refs, List.mem_singleton] at h; simp only [AV.sub]; rw [if_neg (fun e => h e.symm)]
  | .bsl k o l, h => by simp only [AV.refs, List.mem_singleton] at h; simp only [AV.sub]; rw [if_neg (fun e => h e.symm)]
  | .mp k, h => by simp only [AV.refs, List.mem_singleton] at h; simp only [AV.sub]; rw [if_neg (fun e => h e.symm)]
  | .vh k l, h => by simp only [AV.refs, List.mem_singleton] at h; simp only [AV.sub]; rw [if_neg (fun e => h e.symm)]
  | .vc k l, h => by simp only [AV.refs, List.mem_singleton] at h; simp only [AV.sub]; rw [if_neg (fun e => h e.symm)]
  | .agg cs, h => by simp only [AV.sub]; rw [z121 n f cs (by simpa [AV.refs] using h)]
  | .tup cs, h => by simp only [AV.sub]; rw [z121 n f cs (by simpa [AV.refs] using h)]
  | .fn g cs, h => by simp only [AV.sub]; rw [z121 n f cs (by simpa [AV.refs] using h)]
  | .undef, _ => rfl
  | .void, _ => rfl
  | .d _, _ => rfl
  | .nil, _ => rfl
  | .dfull _, _ => rfl
theorem z121 (n : Nat) (f : AV → AV) : ∀ (l : List AV), n ∉ AV.refs.AV.refss l → AV.sub.AV.subs n f l = l
  | [], _ => rfl
  | x :: xs, h => by
    simp only [AV.refs.AV.refss, List.mem_append, not_or] at h
    simp only [AV.sub.AV.subs]
    rw [z466 n f x h.1, z121 n f xs h.2]
end
mutual
theorem z577 (n : Nat) : ∀ (x : AV), n ∉ (x.sub n (fun _ => .undef)).refs
  | .box k o => by simp only [AV.sub]; split <;> simp_all [AV.refs, eq_comm]
  | .elem k i o => by simp only [AV.sub]; split <;> simp_all [AV.refs, eq_comm]
  | .own k => by simp only [AV.sub]; split <;> simp_all [AV.refs, eq_comm]
  | .view k o l => by simp only [AV.sub]; split <;> simp_all [AV.refs, eq_comm]
  | .bsl k o l => by simp only [AV.sub]; split <;> simp_all [AV.refs, eq_comm]
  | .mp k => by simp only [AV.sub]; split <;> simp_all [AV.refs, eq_comm]
  | .vh k l => by simp only [AV.sub]; split <;> simp_all [AV.refs, eq_comm]
  | .vc k l => by simp only [AV.sub]; split <;> simp_all [AV.refs, eq_comm]
  | .dfull _ => by simp [AV.sub, AV.refs]
  | .agg cs => by simp only [AV.sub, AV.refs]; exact z133 n cs
  | .tup cs => by simp only [AV.sub, AV.refs]; exact z133 n cs
  | .fn g cs => by simp only [AV.sub, AV.refs]; exact z133 n cs
  | .undef => by simp [AV.sub, AV.refs]
  | .void => by simp [AV.sub, AV.refs]
  | .d _ => by simp [AV.sub, AV.refs]
  | .nil => by simp [AV.sub, AV.refs]
theorem z133 (n : Nat) : ∀ (l : List AV), n ∉ AV.refs.AV.refss (AV.sub.AV.subs n (fun _ => .undef) l)
  | [] => by simp [AV.sub.AV.subs, AV.refs.AV.refss]
  | x :: xs => by
    simp only [AV.sub.AV.subs, AV.refs.AV.refss, List.mem_append, not_or]
    exact ⟨z577 n x, z133 n xs⟩
end
theorem StRel.rename0 {P : Program} {base out : Own} {st : St} {μ : Pl} {tmps : Array Value} {w : World} (h : StRel P base out st μ tmps w) {n : Nat} (hn : μ n = none) (hl : n < st.m.length) (e z : Nat) :
    ∃ μ', StRel P base out { t := st.t, m := st.m.set n (some (.arr e z [])) } μ' tmps w ∧ ∀ b, ownOf out μ' b → ownOf out μ b := by
  have hown : ∀ b, ownOf out (μ.upd n (some .none0)) b → ownOf out μ b := by
    rintro b (hb | ⟨k, z, l, c, hb⟩)
    · exact .inl hb
    · by_cases hk : k = n
      · subst hk; rw [Pl.upd_same] at hb; cases hb
      · rw [Pl.upd_ne μ _ hk] at hb; exact .inr ⟨k, z, l, c, hb⟩
  have hg : Goes w (ownOf out μ) w (ownOf out (μ.upd n (some .none0))) := fun b o v h1 h2 => ⟨fun hc => h1 (hown b hc), h2⟩
  have hμ : ∀ k, (μ k).isSome → μ.upd n (some .none0) k = μ k := fun k hk => Pl.upd_ne μ _ (fun e => by subst e; rw [hn] at hk; cases hk)
  refine ⟨μ.upd n (some .none0), ⟨h.size, fun i x v h1 h2 => (h.tmp i x v h1 h2).goes hg (fun n _ hs => hμ n hs), ⟨fun k b hk => ?_, fun k hk => ?_, fun k q b z l c z' l' c' h1 h2 => ?_, fun k b z l c hb => ?_⟩, h.hid.less hown, h.out, h.le⟩, hown⟩
  · rw [List.getElem?_set] at hk
    by_cases hkn : n = k
    · subst hkn
      rw [if_pos rfl, if_pos hl] at hk
      cases hk
      exact .inl ⟨Pl.upd_same μ n _, rfl⟩
    · rw [if_neg hkn] at hk
      exact (h.mem.blk k b hk).goes hg (Pl.upd_ne μ _ (Ne.symm hkn)) hμ (fun _ _ _ _ _ => rfl)
  · rw [List.getElem?_set]
    by_cases hkn : n = k
    · subst hkn; exact ⟨.arr e z [], by rw [if_pos rfl, if_pos hl]⟩
    · rw [if_neg hkn]
      rw [Pl.upd_ne μ _ (Ne.symm hkn)] at hk
      exact h.mem.dom k hk
  · by_cases hk : k = n
    · subst hk; rw [Pl.upd_same] at h1; cases h1
    · by_cases hq : q = n
      · subst hq; rw [Pl.upd_same] at h2; cases h2
      · rw [Pl.upd_ne μ _ hk] at h1
        rw [Pl.upd_ne μ _ hq] at h2
        exact h.mem.inj k q b z l c z' l' c' h1 h2
  · by_cases hk : k = n
    · subst hk; rw [Pl.upd_same] at hb; cases hb
    · rw [Pl.upd_ne μ _ hk] at hb
      exact h.mem.base k b z l c hb
def killT : Option Nat → List AV → List AV
  | none, t => t
  | some n, t => t.map (AV.sub n fun _ => .undef)
def killM : Option Nat → List (Option Blk) → List (Option Blk)
  | none, m => m
  | some n, m => subMem n (fun _ => .undef) m
def St.applyA (st : St) (dst : Option Tmp) (e : Eff) (k : Option Nat) : St := ({ t := killT k st.t, m := killM k st.m } : St).apply dst e
def appOf (P : Program) (st : St) (dst : Option Tmp) (t t' : TypeId) (s x : AV) : Option (Eff × Option Nat) := if t' = t then match dst, tslice P t with
  | some d, some e => match tsz P e, tbytes P e, (tzero P e).map (·.cells.size), elemsOf st x with
    | some z, some by_, some zl, some xs => if zl = z ∧ 0 < z ∧ 0 < by_ ∧ by_ ≤ 2 ^ 7 ∧ headIs z xs then (match s with
        | .nil => match st.fresh d with
          | true => if xs.length ≤ 2 ^ 39 then some (⟨.own d, some (d, .arr e z xs)⟩, none) else none
          | _ => none
        | .own n => match st.m[n]? with
          | some (some (.arr e' z' rows)) => if e' = e ∧ z' = z ∧ rows.length + xs.length ≤ 2 ^ 39 then some (⟨.own n, some (n, .arr e z (rows ++ xs))⟩, some n) else none
          | _ => none
        | .vc n len => match st.m[n]? with
          | some (some (.arrP e' z' rows)) => if e' = e ∧ z' = z ∧ rows.length = len ∧ xs.length = 1 then some (⟨.vh n (len + 1), some (n, .arrP e z (rows ++ xs))⟩, none) else none
          | _ => none
        | .dfull rows => match st.fresh d with
          | true => if rows.length + xs.length ≤ 2 ^ 39 ∧ 0 < rows.length ∧ 0 < xs.length ∧ headIs z rows then some (⟨.own d, some (d, .arr e z (rows ++ xs))⟩, none) else none
          | _ => none
        | _ => none) else none
    | _, _, _, _ => none
  | _, _ => none else none
def boxTab : List (Option Blk) → Nat → List (Nat × List Nat)
  | [], _ => []
  | some (.box row) :: l, i => (i, AV.refs.AV.refss row) :: boxTab l (i + 1)
  | none :: l, i => boxTab l (i + 1)
  | some (.arr ..) :: l, i => boxTab l (i + 1)
  | some (.mp ..) :: l, i => boxTab l (i + 1)
  | some (.arrP ..) :: l, i => boxTab l (i + 1)
inductive EffA (P : Program) (o : Oper) (st : St) : Eff → Option Nat → Prop where
  | old (e : Eff) (h : EffR P o st e) : EffA P o st e none
  | app (t t' : TypeId) (s x : Operand) (e : Eff) (k : Option Nat) (ho : o.op = .call { callee := .builtin .append, args := #[s, x], argTypes := #[t, t'] })
      (h : appOf P st o.dst t t' (st.ev s) (st.ev x) = some (e, k)) : EffA P o st e k
  | appR (t t' : TypeId) (s x : Operand) (d n : Nat) (el z : Nat) (rows : List (List DV)) (hd : o.dst = some d) (hl : n < st.m.length) (hdl : d < st.t.length) (ho : o.op = .call { callee := .builtin .append, args := #[s, x], argTypes := #[t, t'] })
      (h : appOf P st o.dst t t' (st.ev s) (st.ev x) = some (⟨.own n, some (n, .arr el z rows)⟩, some n)) : EffA P o st ⟨.d (.sl rows), some (n, .arr el z [])⟩ (some n)
  | litD (d : Nat) (e z : Nat) (rows : List (List DV)) (t : TypeId) (len : Nat) (parts : Array (Nat × Operand)) (ho : o.op = .buildSlice t len parts) (hd : o.dst = some d) (hf : st.fresh d = true) (hdl : d < st.t.length)
      (h : opBuildSlice P st t len (parts.toList.map fun p => (p.1, st.ev p.2)) = some (.arr e z rows)) (hr : AV.refsAll (parts.toList.map fun p => st.ev p.2) = []) : EffA P o st ⟨.d (.sl rows), none⟩ none
theorem z97 : ∀ (m : List (Option Blk)) (i j : Nat) (row : List AV), m[j]? = some (some (.box row)) → (i + j, AV.refs.AV.refss row) ∈ boxTab m i
  | [], _, _, _, h => by simp at h
  | none :: l, i, j, row, h => by
    cases j with
    | zero => simp at h
    | succ j => simp only [boxTab]; rw [show i + (j + 1) = i + 1 + j by omega]; exact z97 l (i + 1) j row (by simpa using h)
  | some (.arr _ _ _) :: l, i, j, row, h => by
    cases j with
    | zero => simp at h
    | succ j => simp only [boxTab]; rw [show i + (j + 1) = i + 1 + j by omega]; exact z97 l (i + 1) j row (by simpa using h)
  | some (.arrP _ _ _) :: l, i, j, row, h => by
    cases j with
    | zero => simp at h
    | succ j => simp only [boxTab]; rw [show i + (j + 1) = i + 1 + j by omega]; exact z97 l (i + 1) j row (by simpa using h)
  | some (.mp _ _ _) :: l, i, j, row, h => by
    cases j with
    | zero => simp at h
    | succ j => simp only [boxTab]; rw [show i + (j + 1) = i + 1 + j by omega]; exact z97 l (i + 1) j row (by simpa using h)
  | some (.box r) :: l, i, j, row, h => by
    cases j with
    | zero => simp at h; subst h; simp [boxTab]
    | succ j => simp only [boxTab, List.mem_cons]; rw [show i + (j + 1) = i + 1 + j by omega]; exact .inr (z97 l (i + 1) j row (by simpa using h))
mutual
theorem z980 (n : Nat) : ∀ (x : AV), ∀ k ∈ (x.sub n (fun _ => .undef)).refs, k ∈ x.refs
  | .box k o, q, h => by simp only [AV.sub] at h; split at h <;> simp_all [AV.refs]
  | .elem k i o, q, h => by simp only [AV.sub] at h; split at h <;> simp_all [AV.refs]
  | .own k, q, h => by simp only [AV.sub] at h; split at h <;> simp_all [AV.refs]
  | .view k o l, q, h => by simp only [AV.sub] at h; split at h <;> simp_all [AV.refs]
  | .bsl k o l, q, h => by simp only [AV.sub] at h; split at h <;> simp_all [AV.refs]
  | .mp k, q, h => by simp only [AV.sub] at h; split at h <;> simp_all [AV.refs]
  | .vh k l, q, h => by simp only [AV.sub] at h; split at h <;> simp_all [AV.refs]
  | .vc k l, q, h => by simp only [AV.sub] at h; split at h <;> simp_all [AV.refs]
  | .agg cs, q, h => by simp only [AV.sub, AV.refs] at h ⊢; exact z167 n cs q h
  | .tup cs, q, h => by simp only [AV.sub, AV.refs] at h ⊢; exact z167 n cs q h
  | .fn f cs, q, h => by simp only [AV.sub, AV.refs] at h ⊢; exact z167 n cs q h
  | .undef, _, h => h
  | .void, _, h => h
  | .d _, _, h => h
  | .nil, _, h => h
  | .dfull _, _, h => h
theorem z167 (n : Nat) : ∀ (l : List AV), ∀ k ∈ AV.refs.AV.refss (AV.sub.AV.subs n (fun _ => .undef) l), k ∈ AV.refs.AV.refss l
  | [], _, h => h
  | x :: xs, q, h => by
    simp only [AV.sub.AV.subs, AV.refs.AV.refss, List.mem_append] at h ⊢
    rcases h with h | h
    · exact .inl (z980 n x q h)
    · exact .inr (z167 n xs q h)
end
theorem Blk.lose_same {n : Nat} {b : Blk} (h : ∀ row, b = .box row → n ∉ AV.refs.AV.refss row) : b.sub n (fun _ => .undef) = b := by
  cases b with
  | box row => simp only [Blk.sub]; rw [← AV.subs_eq, z132 n row (h row rfl)]
  | arr => rfl
  | mp => rfl
  | arrP => rfl
theorem z983 {k : Option Nat} {m : List (Option Blk)} {q : Nat} (h : ∀ n row, k = some n → m[q]? = some (some (.box row)) → n ∉ AV.refs.AV.refss row) : (killM k m)[q]? = m[q]? := by
  cases k with
  | none => rfl
  | some n =>
    simp only [killM, z30]
    cases hm : m[q]? with
    | none => rfl
    | some ob =>
      cases ob with
      | none => rfl
      | some b => simp only [Option.map_some]; rw [Blk.lose_same fun row hb => h n row rfl (by rw [hm, hb])]
theorem z819 {n : Nat} {m : List (Option Blk)} {q : Nat} {b : Blk} (h : ∀ row, b = .box row → n ∉ AV.refs.AV.refss row) : subMem n (fun _ => .undef) (m.set q (some b)) = (subMem n (fun _ => .undef) m).set q (some b) := by
  apply List.ext_getElem?
  intro i
  have hl : (subMem n (fun _ => AV.undef) m).length = m.length := by
    have : ∀ m : List (Option Blk), (subMem n (fun _ => AV.undef) m).length = m.length := by
      intro m
      induction m with
      | nil => rfl
      | cons x xs ih => cases x <;> simp [subMem, ih]
    exact this m
  rw [z30, List.getElem?_set, List.getElem?_set, z30, hl]
  by_cases hq : q = i
  · subst hq
    rw [if_pos rfl, if_pos rfl]
    split
    · simp only [Option.map_some]; rw [Blk.lose_same h]
    · rfl
  · rw [if_neg hq, if_neg hq]
section
variable {P : Program} {ops : Array Oper} {o : Oper} {s st : St}
theorem z426 {t t' : TypeId} {s x : Operand} {e : Eff} {k : Option Nat} (ho : o.op = .call { callee := .builtin .append, args := #[s, x], argTypes := #[t, t'] })
    (h : appOf P st o.dst t t' (st.ev s) (st.ev x) = some (e, k)) : stepOp P o st = some (st.applyA o.dst e k) := by
  unfold stepOp
  rw [ho]
  simp only [List.map_cons, List.map_nil]
  unfold appOf at h
  unfold opAppend
  split at h
  · rename_i htt
    rw [if_pos htt]
    split at h
    · rename_i d e' hd he
      rw [hd, he]
      simp only
      split at h
      · rename_i z by_ zl xs h1 h2 h3 h4
        rw [h1, h2, h3, h4]
        simp only
        split at h
        · rename_i hc
          rw [if_pos hc]
          split at h
          · rename_i hs
            rw [hs]
            simp only
            split at h
            · rename_i hfr
              rw [hfr]
              simp only
              split at h
              · rename_i hl
                rw [if_pos hl]
                cases h
                rfl
              · cases h
            · cases h
          · rename_i n hs
            rw [hs]
            simp only
            split at h
            · rename_i e2 z2 rows hm
              rw [hm]
              simp only
              split at h
              · rename_i hl
                rw [if_pos hl]
                cases h
                rfl
              · cases h
            · cases h
          · rename_i n len hs
            rw [hs]
            simp only
            split at h
            · rename_i e2 z2 rows hm
              rw [hm]
              simp only
              split at h
              · rename_i hl
                rw [if_pos hl]
                cases h
                rfl
              · cases h
            · cases h
          · rename_i rows hs
            rw [hs]
            simp only
            split at h
            · rename_i hfr
              rw [hfr]
              simp only
              split at h
              · rename_i hl
                rw [if_pos hl]
                cases h
                rfl
              · cases h
            · cases h
          · cases h
        · cases h
      · cases h
    · cases h
  · cases h
theorem EffA.step {e : Eff} {k : Option Nat} (h : EffA P o st e k) : StepR P o st (st.applyA o.dst e k) := by
  cases h with
  | old e h => exact h.step
  | app t t' s x _ _ ho h => exact .inr (.inl ⟨by simp [isCall, ho], z426 ho h⟩)
  | appR t t' s x d n el z rows hd hl hdl ho h =>
    refine .inr (.inr ⟨by simp [isCall, ho], _, z426 ho h, fun base out μ tmps w μ1 tmps1 w1 _ h1 => ?_⟩)
    have hn1 : (st.applyA o.dst ⟨.own n, some (n, .arr el z rows)⟩ (some n)).m[n]? = some (some (.arr el z rows)) := by
      have : (killM (some n) st.m).length = st.m.length := by
        have : ∀ m : List (Option Blk), (subMem n (fun _ => AV.undef) m).length = m.length := by
          intro m
          induction m with
          | nil => rfl
          | cons x xs ih => cases x <;> simp [subMem, ih]
        exact this _
      simp only [St.applyA, St.apply]
      rw [List.getElem?_set_self (by rw [this]; exact hl)]
    obtain ⟨μ2, h2, _, hless, hgone⟩ := h1.release n
    obtain ⟨μ3, h3, hless3⟩ := h2.rename0 (hgone ⟨_, hn1⟩) (by
      have := (List.getElem?_eq_some_iff.1 hn1).1
      unfold St.release
      rw [hn1]
      have e : ∀ (f : AV → AV) (m : List (Option Blk)), (subMem n f m).length = m.length := by
        intro f m
        induction m with
        | nil => rfl
        | cons x xs ih => cases x <;> simp [subMem, ih]
      simp only [e, List.length_set]
      exact this) el z
    refine ⟨μ3, ?_, fun b hb => hless b (hless3 b hb)⟩
    have key : ({ t := ((st.applyA o.dst ⟨.own n, some (n, .arr el z rows)⟩ (some n)).release n).t, m := ((st.applyA o.dst ⟨.own n, some (n, .arr el z rows)⟩ (some n)).release n).m.set n (some (.arr el z [])) } : St) = st.applyA o.dst ⟨.d (.sl rows), some (n, .arr el z [])⟩ (some n) := by
      have e1 : (st.applyA o.dst ⟨.own n, some (n, .arr el z rows)⟩ (some n)).release n = { t := (st.applyA o.dst ⟨.own n, some (n, .arr el z rows)⟩ (some n)).t.map (AV.sub n (snapLeaf (.arr el z rows))), m := subMem n (snapLeaf (.arr el z rows)) ((st.applyA o.dst ⟨.own n, some (n, .arr el z rows)⟩ (some n)).m.set n none) } := by
        unfold St.release
        rw [hn1]
      rw [e1]
      have ht : (st.applyA o.dst ⟨.own n, some (n, .arr el z rows)⟩ (some n)).t.map (AV.sub n (snapLeaf (.arr el z rows))) = (st.applyA o.dst ⟨.d (.sl rows), some (n, .arr el z [])⟩ (some n)).t := by
        rw [hd]
        simp only [St.applyA, St.apply, St.put, killT, List.map_set, List.map_map]
        have : (AV.sub n (snapLeaf (.arr el z rows)) ∘ AV.sub n fun _ => AV.undef) = AV.sub n fun _ => AV.undef := funext fun x => z466 n _ _ (z577 n x)
        rw [this]
        simp [AV.sub, snapLeaf]
      have hm : (subMem n (snapLeaf (.arr el z rows)) ((st.applyA o.dst ⟨.own n, some (n, .arr el z rows)⟩ (some n)).m.set n none)).set n (some (.arr el z [])) = (st.applyA o.dst ⟨.d (.sl rows), some (n, .arr el z [])⟩ (some n)).m := by
        simp only [St.applyA, St.apply, killM, List.set_set]
        apply List.ext_getElem?
        intro i
        have hlen : ∀ (f : AV → AV) (m : List (Option Blk)), (subMem n f m).length = m.length := by
          intro f m
          induction m with
          | nil => rfl
          | cons x xs ih => cases x <;> simp [subMem, ih]
        rw [List.getElem?_set, List.getElem?_set, hlen, List.length_set]
        by_cases hi : n = i
        · rw [if_pos hi, if_pos hi]
        · rw [if_neg hi, if_neg hi, z30, List.getElem?_set_ne hi, z30]
          cases st.m[i]? with
          | none => rfl
          | some ob =>
            cases ob with
            | none => rfl
            | some b =>
              cases b with
              | box row =>
                simp only [Option.map_some, Blk.sub]
                rw [← AV.subs_eq, ← AV.subs_eq, z121 n _ _ (z133 n row)]
              | arr => rfl
              | mp => rfl
              | arrP => rfl
      rw [ht, hm]
    rw [← key]
    exact h3
  | litD d e z rows t len parts ho hd hf hdl h hr =>
    have hst : stepOp P o st = some (st.addBlk d (.own d) (.arr e z rows)) := by
      have := (EffR.lit (P := P) d e z rows t len parts ho hd hf h hr)
      have hps : (parts.toList.map fun p => (p.1, st.ev p.2)).map (·.2) = parts.toList.map fun p => st.ev p.2 := by simp [Function.comp_def]
      unfold stepOp
      rw [ho]
      simp only [h, hd, Option.getD_some, hf, hps, hr]
      rfl
    refine .inr (.inr ⟨by simp [isCall, ho], _, hst, fun base out μ tmps w μ1 tmps1 w1 h0 h1 => ?_⟩)
    have hfr := z33 hf
    have hl : d < st.m.length := (List.getElem?_eq_some_iff.1 hfr).1
    have hn1 : (st.addBlk d (.own d) (.arr e z rows)).m[d]? = some (some (.arr e z rows)) := by simp only [St.addBlk]; rw [List.getElem?_set_self hl]
    obtain ⟨μ2, h2, _, hless, hgone⟩ := h1.release d
    refine ⟨μ2, ?_, hless⟩
    have hnp := z128 h0.mem hfr
    have norefs : ∀ (i : Nat) x, st.t[i]? = some x → d ∉ x.refs := fun i x hx hc => by
      have hi : i < tmps.size := by rw [h0.size]; exact (List.getElem?_eq_some_iff.1 hx).1
      have := (h0.tmp i x tmps[i] hx (by simp [hi])).placed d hc
      rw [hnp] at this; cases this
    have norefm : ∀ (i : Nat) row, st.m[i]? = some (some (.box row)) → d ∉ AV.refs.AV.refss row := fun i row hrow hc => by
      obtain ⟨b, cs, ty, q1, q2, q3, q4⟩ := h0.mem.box hrow
      have many : ∀ (l : List AV), d ∈ AV.refs.AV.refss l → ∃ (j : Nat) (x : AV), l[j]? = some x ∧ d ∈ x.refs := by
        intro l
        induction l with
        | nil => intro h; simp [AV.refs.AV.refss] at h
        | cons y ys ih =>
          intro h
          simp only [AV.refs.AV.refss, List.mem_append] at h
          rcases h with h | h
          · exact ⟨0, y, rfl, h⟩
          · obtain ⟨j, x, h1, h2⟩ := ih h; exact ⟨j + 1, x, by simpa using h1, h2⟩
      obtain ⟨j, x, hx, hdx⟩ := many row hc
      have hj : j < cs.size := Nat.lt_of_lt_of_le (List.getElem?_eq_some_iff.1 hx).1 q3
      have := (q4 j x cs[j] hx (by simp [hj])).2.placed d hdx
      rw [hnp] at this; cases this
    have key : (st.addBlk d (.own d) (.arr e z rows)).release d = st.applyA o.dst ⟨.d (.sl rows), none⟩ none := by
      have e1 : (st.addBlk d (.own d) (.arr e z rows)).release d = { t := (st.addBlk d (.own d) (.arr e z rows)).t.map (AV.sub d (snapLeaf (.arr e z rows))), m := subMem d (snapLeaf (.arr e z rows)) ((st.addBlk d (.own d) (.arr e z rows)).m.set d none) } := by
        unfold St.release
        rw [hn1]
      rw [e1, hd]
      simp only [St.addBlk, St.applyA, St.apply, St.put, killT, killM, List.map_set, List.set_set]
      have ht : st.t.map (AV.sub d (snapLeaf (.arr e z rows))) = st.t := by
        apply List.ext_getElem?
        intro i
        rw [List.getElem?_map]
        cases hx : st.t[i]? with
        | none => rfl
        | some x => simp only [Option.map_some]; rw [z466 d _ x (norefs i x hx)]
      have hm : subMem d (snapLeaf (.arr e z rows)) (st.m.set d none) = st.m := by
        apply List.ext_getElem?
        intro i
        rw [z30, List.getElem?_set]
        by_cases hi : d = i
        · subst hi
          rw [if_pos rfl, if_pos hl, hfr]
          rfl
        · rw [if_neg hi]
          cases hx : st.m[i]? with
          | none => rfl
          | some ob =>
            cases ob with
            | none => rfl
            | some b =>
              cases b with
              | box row => simp only [Option.map_some, Blk.sub]; rw [← AV.subs_eq, z121 d _ row (norefm i row hx)]
              | arr => rfl
              | mp => rfl
              | arrP => rfl
      rw [ht, hm]
      simp [AV.sub, snapLeaf]
    rw [← key]
    exact h2
theorem z358 {s s' : St} {dst : Option Tmp} {t t' : TypeId} {a x : AV} (h : Agree (a.refs ++ x.refs ++ dst.toList) s.m s'.m) : appOf P s dst t t' a x = appOf P s' dst t t' a x := by
  unfold appOf
  rw [z90 (st' := s') (h.mono fun n hn => by simp [hn])]
  cases dst with
  | none => rfl
  | some d =>
    have hfr := z106 (s := s) (s' := s') (h d (by simp))
    cases a with
    | own n => simp only [h n (by simp [AV.refs])]
    | vc n len => simp only [h n (by simp [AV.refs])]
    | dfull rows =>
      split
      · split
        · rename_i hd _
          cases hd
          split
          · split
            · rw [hfr]
            · rfl
          · rfl
        · rfl
      · rfl
    | nil =>
      split
      · split
        · rename_i hd _
          cases hd
          split
          · split
            · rw [hfr]
            · rfl
          · rfl
        · rfl
      · rfl
    | _ => rfl
def EffGA (P : Program) (ops : Array Oper) (o : Oper) (s : St) (e : Eff) (k : Option Nat) : Prop := match guardT ops o with
  | none => False
  | some none => EffA P o s e k
  | some (some (t, want)) => (s.ev (.tmp t) = .d (.bool want) ∧ EffA P o s e k) ∨ ((s.ev (.tmp t) = .d (.bool (!want)) ∨ s.ev (.tmp t) = .void) ∧ e = ⟨.void, none⟩ ∧ k = none)
theorem EffGA.step {e : Eff} {k : Option Nat} (h : EffGA P ops o s e k) : StepG P ops o s (s.applyA o.dst e k) := by
  unfold EffGA at h
  unfold StepG
  unfold guardT at h
  cases hg : o.guard with
  | none => rw [hg] at h; exact h.step
  | some gw =>
    obtain ⟨j, want⟩ := gw
    rw [hg] at h
    simp only at h ⊢
    cases ht : (ops[j]?).bind (·.dst) with
    | none => rw [ht] at h; exact h.elim
    | some t =>
      rw [ht] at h
      refine ⟨t, rfl, ?_⟩
      rcases h with ⟨h1, h2⟩ | ⟨h1, rfl, rfl⟩
      · exact .inl ⟨h1, h2.step⟩
      · exact .inr ⟨h1, by cases o.dst <;> rfl⟩
structure RecA where
  i : Nat
  e : Eff
  k : Option Nat
  N : List Nat
  R : List Nat
  u : Bool
def boxE (e : Eff) : List Nat := match e.m with
  | some (_, .box row) => AV.refs.AV.refss row
  | _ => []
structure LocalA (P : Program) (ops : Array Oper) (o : Oper) (s : St) (r : RecA) : Prop where
  eff : EffGA P ops o s r.e r.k
  loc : ∀ s' : St, (∀ t ∈ o.looksAt ops, s.ev (.tmp t) = s'.ev (.tmp t)) → s.t.length = s'.t.length → s.m.length = s'.m.length → Agree r.N s.m s'.m → EffGA P ops o s' r.e r.k
  look : ∀ t ∈ o.looksAt ops, ∀ n ∈ (s.ev (.tmp t)).refs, n ∈ r.R
  whole : r.u = true → ∀ t ∈ o.looksAt ops, (s.ev (.tmp t)).whole = true
  val : ∀ n ∈ r.e.v.refs, n ∈ r.R
inductive ChainA (P : Program) (ops : Array Oper) : List RecA → St → St → Prop where
  | nil (s : St) : ChainA P ops [] s s
  | cons {r : RecA} {rs : List RecA} {s s' : St} {o : Oper} (ho : ops[r.i]? = some o) (hd : dstOk o = true) (h : LocalA P ops o s r) (ht : ChainA P ops rs (s.applyA o.dst r.e r.k) s') : ChainA P ops (r :: rs) s s'
def missB (k : Option Nat) (R : List Nat) : Bool := match k with
  | none => true
  | some n => !R.contains n
abbrev KeyA := Nat × List Nat × List Nat × Option Nat × List Nat × Bool × List Nat
def RecA.key (r : RecA) : KeyA := (r.i, r.e.name, r.N, r.k, r.R, r.u, boxE r.e)
def clearB (Bf : Nat → List Nat) (k : Option Nat) (b : KeyA) : Bool := match k with
  | none => true
  | some n => (Bf n).all fun q => !(b.2.2.1.contains q || b.2.1.contains q)
def indepA (ops : Array Oper) (Bf : Nat → List Nat) (a b : KeyA) : Bool := indepB ops (a.1, a.2.1, a.2.2.1) (b.1, b.2.1, b.2.2.1) &&
  ((a.2.2.2.1.isNone || (b.2.2.2.2.2.1 && missB a.2.2.2.1 b.2.2.2.2.1)) && ((missB b.2.2.2.1 a.2.2.2.2.1 && (a.2.2.2.1.isNone || b.2.2.2.1.isNone)) && (clearB Bf a.2.2.2.1 b && clearB Bf b.2.2.2.1 a)))
theorem z357 {dst : Option Tmp} {e : Eff} {k : Option Nat} {t : Tmp} (h : dst ≠ some t) (hk : ∀ n, k = some n → n ∉ (s.ev (.tmp t)).refs) : (s.applyA dst e k).ev (.tmp t) = s.ev (.tmp t) := by
  unfold St.applyA
  rw [z301 h]
  cases k with
  | none => rfl
  | some n =>
    have := hk n rfl
    simp only [St.ev, killT, List.getD_eq_getElem?_getD, List.getElem?_map] at this ⊢
    cases hx : s.t[t]? with
    | none => rfl
    | some x =>
      rw [hx] at this
      simp only [Option.map_some, Option.getD_some] at this ⊢
      exact lose_same n x this
theorem z940 {dst : Option Tmp} {e : Eff} {k : Option Nat} {t : Tmp} (h : dst ≠ some t) (hw : ((s.applyA dst e k).ev (.tmp t)).whole = true) : (s.applyA dst e k).ev (.tmp t) = s.ev (.tmp t) := by
  refine z357 h fun n hk => ?_
  subst hk
  unfold St.applyA at hw
  rw [z301 h] at hw
  simp only [St.ev, killT, List.getD_eq_getElem?_getD, List.getElem?_map] at hw ⊢
  cases hx : s.t[t]? with
  | none => simp [AV.refs]
  | some x =>
    rw [hx] at hw
    simp only [Option.map_some, Option.getD_some] at hw ⊢
    exact z408 n x hw
theorem z766 {dst : Option Tmp} {e : Eff} {k : Option Nat} {n : Nat} (h : n ∉ e.name) (hk : ∀ q row, k = some q → s.m[n]? = some (some (.box row)) → q ∉ AV.refs.AV.refss row) : (s.applyA dst e k).m[n]? = s.m[n]? := by
  unfold St.applyA
  rw [z734 h]
  exact z983 hk
theorem z981 {n : Nat} {v : AV} (hv : n ∉ v.refs) (t : List AV) (a : Nat) : (t.set a v).map (AV.sub n fun _ => .undef) = (t.map (AV.sub n fun _ => .undef)).set a v := by
  rw [List.map_set, lose_same n v hv]
theorem z735 {d d' : Option Tmp} {e e' : Eff} {k k' : Option Nat} (hd : ∀ t, d = some t → d' ≠ some t) (hn : ∀ n ∈ e.name, n ∉ e'.name) (h1 : ∀ n, k = some n → n ∉ e'.v.refs ∧ n ∉ boxE e') (h2 : ∀ n, k' = some n → n ∉ e.v.refs ∧ n ∉ boxE e) (h3 : k = none ∨ k' = none) :
    (s.applyA d e k).applyA d' e' k' = (s.applyA d' e' k').applyA d e k := by
  have key : ∀ (s : St) (d d' : Option Tmp) (e e' : Eff) (n : Nat), (∀ t, d = some t → d' ≠ some t) → (∀ n ∈ e.name, n ∉ e'.name) → n ∉ e'.v.refs → n ∉ boxE e' → (s.applyA d e (some n)).applyA d' e' none = (s.applyA d' e' none).applyA d e (some n) := by
    intro s d d' e e' n hd hn hv hb
    have e1 : (s.applyA d e (some n)).applyA d' e' none = (({ t := killT (some n) s.t, m := killM (some n) s.m } : St).apply d e).apply d' e' := rfl
    have e2 : (s.applyA d' e' none).applyA d e (some n) = (({ t := killT (some n) s.t, m := killM (some n) s.m } : St).apply d' e').apply d e := by
      have : ({ t := killT (some n) (s.apply d' e').t, m := killM (some n) (s.apply d' e').m } : St) = ({ t := killT (some n) s.t, m := killM (some n) s.m } : St).apply d' e' := by
        have ht : killT (some n) (s.apply d' e').t = (({ t := killT (some n) s.t, m := killM (some n) s.m } : St).apply d' e').t := by
          cases d' with
          | none => rfl
          | some a =>
            simp only [St.apply, St.put, killT]
            rw [z981 hv]
        have hm : killM (some n) (s.apply d' e').m = (({ t := killT (some n) s.t, m := killM (some n) s.m } : St).apply d' e').m := by
          obtain ⟨v', m'⟩ := e'
          cases m' with
          | none => rfl
          | some nb =>
            obtain ⟨q, b⟩ := nb
            simp only [St.apply, killM]
            exact z819 fun row hr => by subst hr; simpa [boxE] using hb
        rw [ht, hm]
      show ({ t := killT (some n) (s.apply d' e').t, m := killM (some n) (s.apply d' e').m } : St).apply d e = _
      rw [this]
    rw [e1, e2]
    exact z269 hd hn
  cases k with
  | none =>
    cases k' with
    | none => exact z269 hd hn
    | some n => exact (key s d' d e' e n (fun t h h' => hd t h' h) (fun a h h' => hn a h' h) (h2 n rfl).1 (h2 n rfl).2).symm
  | some n =>
    cases k' with
    | none => exact key s d d' e e' n hd hn (h1 n rfl).1 (h1 n rfl).2
    | some n' => rcases h3 with h3 | h3 <;> cases h3
def InB (Bf : Nat → List Nat) (Ks : List Nat) (m : List (Option Blk)) : Prop := ∀ n ∈ Ks, ∀ (i : Nat) row, m[i]? = some (some (.box row)) → n ∈ AV.refs.AV.refss row → i ∈ Bf n
def okRec (Bf : Nat → List Nat) (Ks : List Nat) (r : RecA) : Prop := (∀ n, r.k = some n → n ∈ Ks) ∧ ∀ n ∈ boxE r.e, n ∈ Ks → ∀ q ∈ r.e.name, q ∈ Bf n
theorem InB.apply {Bf : Nat → List Nat} {Ks : List Nat} (h : InB Bf Ks s.m) {dst : Option Tmp} {e : Eff} {k : Option Nat} (hb : ∀ n ∈ boxE e, n ∈ Ks → ∀ q ∈ e.name, q ∈ Bf n) : InB Bf Ks (s.applyA dst e k).m := by
  intro n hn i row h1 h2
  obtain ⟨v, m⟩ := e
  have old : (killM k s.m)[i]? = some (some (.box row)) → i ∈ Bf n := by
    intro h3
    cases k with
    | none => exact h n hn i row h3 h2
    | some q =>
      simp only [killM, z30, Option.map_eq_some_iff] at h3
      obtain ⟨ob, hob, b, hb1, hb2⟩ := h3
      cases b with
      | box r0 =>
        simp only [Blk.sub, Blk.box.injEq] at hb2
        subst hb1
        refine h n hn i r0 hob (z167 q r0 n ?_)
        rw [AV.subs_eq, hb2]
        exact h2
      | arr => simp [Blk.sub] at hb2
      | mp => simp [Blk.sub] at hb2
      | arrP => simp [Blk.sub] at hb2
  cases m with
  | none => exact old h1
  | some nb =>
    obtain ⟨q, b⟩ := nb
    simp only [St.applyA, St.apply] at h1
    rw [List.getElem?_set] at h1
    split at h1
    · rename_i hqi
      split at h1
      · cases h1
        exact hb n (by simpa [boxE] using h2) hn i (by simp [Eff.name, hqi])
      · cases h1
    · exact old h1
theorem z151 (s : St) (d : Option Tmp) (e : Eff) (k : Option Nat) : (s.applyA d e k).t.length = s.t.length := by
  cases d <;> cases k <;> simp [St.applyA, St.apply, St.put, killT]
theorem z152 (s : St) (d : Option Tmp) (e : Eff) (k : Option Nat) : (s.applyA d e k).m.length = s.m.length := by
  have h : ∀ (f : AV → AV) (n : Nat) (m : List (Option Blk)), (subMem n f m).length = m.length := by
    intro f n m
    induction m with
    | nil => rfl
    | cons x xs ih => cases x <;> simp [subMem, ih]
  have hk : (killM k s.m).length = s.m.length := by cases k <;> simp [killM, h]
  obtain ⟨v, m⟩ := e
  cases m with
  | none => exact hk
  | some nb => simp [St.applyA, St.apply, hk]
theorem z1088 {Bf : Nat → List Nat} {Ks : List Nat} {a b : RecA} {s s' : St} {rs : List RecA} (hi : indepA ops Bf a.key b.key = true) (hF : InB Bf Ks s.m) (ha : okRec Bf Ks a) (hb : okRec Bf Ks b) (h : ChainA P ops (a :: b :: rs) s s') : ChainA P ops (b :: a :: rs) s s' := by
  cases h with
  | cons ho hd h ht =>
  rename_i x
  cases ht with
  | cons ho' hd' h' ht =>
  rename_i y
  simp only [indepA, RecA.key, indepB, ho, ho', Bool.and_eq_true, List.all_eq_true, Bool.not_eq_true', Bool.or_eq_false_iff, List.contains_eq_mem, decide_eq_false_iff_not, Bool.or_eq_true, Option.isNone_iff_eq_none] at hi
  obtain ⟨⟨⟨h1, h2⟩, h3⟩, hk1, ⟨hk2, hk3⟩, hc1, hc2⟩ := hi
  obtain ⟨a1, a2, a3⟩ := Oper.apart_spec h1
  have miss : ∀ {k : Option Nat} {R : List Nat}, missB k R = true → ∀ n, k = some n → n ∉ R := by
    intro k R hm n hk hn
    subst hk
    simp [missB, hn] at hm
  have clear : ∀ {k : Option Nat} {r : RecA}, clearB Bf k (r.i, r.e.name, r.N, r.k, r.R, r.u, boxE r.e) = true → ∀ n, k = some n → ∀ q ∈ Bf n, q ∉ r.N ∧ q ∉ r.e.name := by
    intro k r hc n hk q hq
    subst hk
    simp only [clearB, List.all_eq_true, Bool.not_eq_true', Bool.or_eq_false_iff, List.contains_eq_mem, decide_eq_false_iff_not] at hc
    exact hc q hq
  have noBox : ∀ {k : Option Nat} {r : RecA}, okRec Bf Ks r → (∀ n, k = some n → n ∈ Ks) → clearB Bf k (r.i, r.e.name, r.N, r.k, r.R, r.u, boxE r.e) = true → ∀ n, k = some n → n ∉ boxE r.e := by
    intro k r hr hK hc n hk hn
    have : ∃ q, q ∈ r.e.name := by
      unfold boxE at hn
      split at hn
      · rename_i q row hq; exact ⟨q, by simp [Eff.name, hq]⟩
      · simp at hn
    obtain ⟨q, hq⟩ := this
    exact (clear hc n hk q (hr.2 n hn (hK n hk) q hq)).2 hq
  -- b first
  have hev1 : ∀ t ∈ y.looksAt ops, (s.applyA x.dst a.e a.k).ev (.tmp t) = s.ev (.tmp t) := by
    intro t ht
    rcases hk1 with hk | ⟨hu, _⟩
    · exact z357 (fun hd => a1 t hd ht) (fun n hn => by rw [hk] at hn; cases hn)
    · exact z940 (fun hd => a1 t hd ht) (h'.whole hu t ht)
  have hm1 : Agree b.N (s.applyA x.dst a.e a.k).m s.m := fun n hn => z766 (fun hc => (h2 n hc).1 hn) fun q row hk hrow hq => (clear hc1 q hk n (hF q (ha.1 q hk) n row hrow hq)).1 hn
  have hbl : LocalA P ops y s b := ⟨h'.loc s hev1 (z151 ..) (z152 ..) hm1, fun s2 he2 htl2 hml2 ha2 => h'.loc s2 (fun t ht => (hev1 t ht).trans (he2 t ht)) ((z151 ..).trans htl2) ((z152 ..).trans hml2) (fun n hn => (hm1 n hn).trans (ha2 n hn)),
    fun t ht n hn => h'.look t ht n (by rw [hev1 t ht]; exact hn), fun hu t ht => by rw [← hev1 t ht]; exact h'.whole hu t ht, h'.val⟩
  -- then a
  have hev2 : ∀ t ∈ x.looksAt ops, s.ev (.tmp t) = (s.applyA y.dst b.e b.k).ev (.tmp t) := fun t ht => (z357 (fun hd => a3 t hd ht) (fun n hn hc => miss hk2 n hn (h.look t ht n hc))).symm
  have hm2 : Agree a.N s.m (s.applyA y.dst b.e b.k).m := fun n hn => (z766 (fun hc => (h3 n hc).1 hn) fun q row hk hrow hq => (clear hc2 q hk n (hF q (hb.1 q hk) n row hrow hq)).1 hn).symm
  have hal : LocalA P ops x (s.applyA y.dst b.e b.k) a := ⟨h.loc _ hev2 (z151 ..).symm (z152 ..).symm hm2, fun s2 he2 htl2 hml2 ha2 => h.loc s2 (fun t ht => (hev2 t ht).trans (he2 t ht)) ((z151 ..).symm.trans htl2) ((z152 ..).symm.trans hml2) (fun n hn => (hm2 n hn).trans (ha2 n hn)),
    fun t ht n hn => h.look t ht n (by rw [hev2 t ht]; exact hn), fun hu t ht => by rw [← hev2 t ht]; exact h.whole hu t ht, h.val⟩
  refine .cons ho' hd' hbl (.cons ho hd hal ?_)
  rw [← z735 (fun t hd hd2 => a2 t hd hd2) (fun n hn => (h2 n hn).2) (fun n hn => ⟨fun hc => ?_, noBox hb ha.1 hc1 n hn⟩) (fun n hn => ⟨fun hc => miss hk2 n hn (h.val n hc), noBox ha hb.1 hc2 n hn⟩) hk3]
  · exact ht
  · rcases hk1 with hk | ⟨_, hk⟩
    · rw [hk] at hn; cases hn
    · exact miss hk n hn (h'.val n hc)
theorem z935 {Bf : Nat → List Nat} {Ks : List Nat} {r : RecA} {B : List RecA} {s' : St} (hr : okRec Bf Ks r) : ∀ (A : List RecA) (s : St), InB Bf Ks s.m → (∀ a ∈ A, okRec Bf Ks a) → (∀ a ∈ A, indepA ops Bf a.key r.key = true) → ChainA P ops (A ++ r :: B) s s' → ChainA P ops (r :: (A ++ B)) s s'
  | [], _, _, _, _, h => h
  | a :: A, s, hF, hA, hi, h => by
    cases h with
    | cons ho hd h ht =>
    have := z935 hr A _ (hF.apply (hA a (by simp)).2) (fun b hb => hA b (by simp [hb])) (fun b hb => hi b (by simp [hb])) ht
    exact z1088 (hi a (by simp)) hF (hA a (by simp)) hr (.cons ho hd h this)
def FreeChain (P : Program) (ops : Array Oper) (Bf : Nat → List Nat) (Ks : List Nat) (rs : List RecA) (s s' : St) : Prop := InB Bf Ks s.m ∧ (∀ r ∈ rs, okRec Bf Ks r) ∧ ChainA P ops rs s s'
def pairsA (ops : Array Oper) (Bf : Nat → List Nat) (ms : List Nat) : List KeyA → Bool
  | [] => true
  | a :: l => l.all (fun b => (ms.getD b.1 0).testBit a.1 || indepA ops Bf a b) && pairsA ops Bf ms l
theorem z320 {Bf : Nat → List Nat} (hm : ∀ k i, ((masks ops.toList []).getD k 0).testBit i = true → Anc ops i k) : ∀ {rs : List RecA}, pairsA ops Bf (masks ops.toList []) (rs.map RecA.key) = true → rs.Pairwise (fun a b => Anc ops a.i b.i ∨ indepA ops Bf a.key b.key = true)
  | [], _ => .nil
  | a :: rs, h => by
    simp only [List.map_cons, pairsA, Bool.and_eq_true, List.all_eq_true, List.mem_map, forall_exists_index, and_imp, forall_apply_eq_imp_iff₂, Bool.or_eq_true] at h
    refine .cons (fun b hb => ?_) (z320 hm h.2)
    rcases h.1 b hb with h1 | h1
    · exact .inl (hm _ _ h1)
    · exact .inr h1
def inBoxes (B0 : List (Nat × List Nat)) (acc : List KeyA) (n : Nat) : List Nat := (B0.flatMap fun p => if p.2.contains n then [p.1] else []) ++ acc.flatMap fun b => if b.2.2.2.2.2.2.contains n then b.2.1 else []
def killsOf (rs : List RecA) : List Nat := rs.filterMap (·.k)
theorem z588 (rs : List RecA) : InB (inBoxes (boxTab s.m 0) (rs.map RecA.key)) (killsOf rs) s.m ∧ ∀ r ∈ rs, okRec (inBoxes (boxTab s.m 0) (rs.map RecA.key)) (killsOf rs) r := by
  refine ⟨fun n _ i row h1 h2 => ?_, fun r hr => ⟨fun n hk => List.mem_filterMap.2 ⟨r, hr, hk⟩, fun n hn _ q hq => ?_⟩⟩
  · have := z97 s.m 0 i row h1
    rw [Nat.zero_add] at this
    refine List.mem_append_left _ (List.mem_flatMap.2 ⟨_, this, ?_⟩)
    simp [h2]
  · refine List.mem_append_right _ (List.mem_flatMap.2 ⟨r.key, List.mem_map.2 ⟨r, hr, rfl⟩, ?_⟩)
    simp [RecA.key, hn, hq]
end
def lookRefs (s : St) (ops : Array Oper) (o : Oper) : List Nat := (o.looksAt ops).flatMap fun t => (s.ev (.tmp t)).refs
def lookWhole (s : St) (ops : Array Oper) (o : Oper) : Bool := (o.looksAt ops).all fun t => (s.ev (.tmp t)).whole
def relB (rl : List Nat) (dst : Option Tmp) : Bool := match dst with
  | some d => rl.contains d
  | none => false
def relE (rl : List Nat) (dst : Option Tmp) (s : St) (r : Eff × Option Nat) : Option (Eff × Option Nat) := if relB rl dst = true then (match r, dst with
    | (⟨.own n, some (n', .arr el z rows)⟩, some n''), some d => match s.m[n]?, s.t[d]? with
      | some _, some _ => if n = n' ∧ n = n'' then some (⟨.d (.sl rows), some (n, .arr el z [])⟩, some n) else none
      | _, _ => none
    | _, _ => none) else some r
def effA (P : Program) (rl : List Nat) (o : Oper) (s : St) (C : Eff → Option Nat → List Nat → Prop) : Prop := match o.op with
  | .call { callee := .builtin .append, args, argTypes } => match argTypes.toList, args.toList with
    | [t, t'], [a, x] => bindK (appOf P s o.dst t t' (s.ev a) (s.ev x)) fun r => bindK (relE rl o.dst s r) fun r => C r.1 r.2 ((s.ev a).refs ++ (s.ev x).refs ++ o.dst.toList)
    | _, _ => False
  | .buildSlice t len parts => if relB rl o.dst = true then (bindK o.dst fun d => bindK (opBuildSlice P s t len (parts.toList.map fun p => (p.1, s.ev p.2))) fun b =>
      AV.refsAll (parts.toList.map fun p => s.ev p.2) = [] ∧ s.fresh d = true ∧ match s.t[d]?, b with
        | some _, .arr _ _ rows => C ⟨.d (.sl rows), none⟩ none [d]
        | _, _ => False) else effK P o s fun e N => C e none N
  | _ => effK P o s fun e N => C e none N
def guardRunA (P : Program) (rl : List Nat) (t : AV) (want : Bool) (o : Oper) (s : St) (R : Eff → Option Nat → List Nat → Prop) : Prop := ∀ K' : Eff → Option Nat → List Nat → Prop, (∀ e k N, R e k N → K' e k N) → guardK t want (effA P rl o s K') (K' ⟨.void, none⟩ none [])
def runA (P : Program) (rl : List Nat) (ops : Array Oper) (B0 : List (Nat × List Nat)) : List Oper → Nat → List KeyA → St → (St → Prop) → Prop
  | [], _, acc, s, K => pairsA ops (inBoxes B0 acc.reverse) (masks ops.toList []) acc.reverse = true ∧ K s
  | o :: os, i, acc, s, K => dstOk o = true ∧ match guardT ops o with
    | none => False
    | some none => effA P rl o s fun e k N => runA P rl ops B0 os (i + 1) ((i, e.name, N, k, lookRefs s ops o ++ e.v.refs, lookWhole s ops o, boxE e) :: acc) (s.applyA o.dst e k) K
    | some (some (t, want)) => guardRunA P rl (s.ev (.tmp t)) want o s fun e k N => runA P rl ops B0 os (i + 1) ((i, e.name, N, k, lookRefs s ops o ++ e.v.refs, lookWhole s ops o, boxE e) :: acc) (s.applyA o.dst e k) K
section
variable {P : Program} {rd : Option Nat} {n : Nat} {J : Env} {k : Option Nat} {st : St} {ops : Array Oper} {Q : Exit → Option Nat → St → Prop} {o : Oper} {s : St}
theorem z611 {rl : List Nat} {C : Eff → Option Nat → List Nat → Prop} (h : effA P rl o s C) : ∃ e k N, (EffA P o s e k ∧ ∀ s' : St, (∀ x ∈ o.op.operands, s.ev x = s'.ev x) → s.t.length = s'.t.length → s.m.length = s'.m.length → Agree N s.m s'.m → EffA P o s' e k) ∧ C e k N := by
  unfold effA at h
  split at h
  · rename_i ho
    split at h
    · rename_i hts hargs
      obtain ⟨⟨e, k⟩, h1, ⟨e', k'⟩, hr, h3⟩ := h
      have e1 := z78 hts
      have e2 := z78 hargs
      subst e1; subst e2
      unfold relE at hr
      split at hr
      · split at hr
        · rename_i n n' el z rows n'' d hrr hdd
          split at hr
          · rename_i y1 y2 hm ht
            split at hr
            · rename_i hnn
              obtain ⟨rfl, rfl⟩ := hnn
              cases hrr
              cases hr
              have hl := (List.getElem?_eq_some_iff.1 hm).1
              have hdl := (List.getElem?_eq_some_iff.1 ht).1
              refine ⟨_, _, _, ⟨.appR _ _ _ _ d n el z rows hdd hl hdl ho h1, fun s' he htl hml hag => .appR _ _ _ _ d n el z rows hdd (by rw [← hml]; exact hl) (by rw [← htl]; exact hdl) ho ?_⟩, h3⟩
              rw [← he _ (by rw [ho]; simp [Op.operands, Call.operands]), ← he _ (by rw [ho]; simp [Op.operands, Call.operands]), ← z358 hag]
              exact h1
            · cases hr
          · cases hr
        · cases hr
      · cases hr
        refine ⟨e, k, _, ⟨.app _ _ _ _ e k ho h1, fun s' he _ _ hag => .app _ _ _ _ e k ho ?_⟩, h3⟩
        rw [← he _ (by rw [ho]; simp [Op.operands, Call.operands]), ← he _ (by rw [ho]; simp [Op.operands, Call.operands]), ← z358 hag]
        exact h1
    · exact h.elim
  · rename_i t len parts ho
    split at h
    · obtain ⟨d, hd, b, hb, hr, hf, h⟩ := h
      split at h
      · rename_i y e z rows ht
        have hdl := (List.getElem?_eq_some_iff.1 ht).1
        refine ⟨_, _, _, ⟨.litD d e z rows t len parts ho hd hf hdl hb hr, fun s' he htl _ hag => ?_⟩, h⟩
        have hev : ∀ p ∈ parts.toList, s.ev p.2 = s'.ev p.2 := fun p hp => he p.2 (by rw [ho]; simp only [Op.operands, List.mem_toArray, List.mem_map]; exact ⟨p, hp, rfl⟩)
        have e1 : (parts.toList.map fun p => (p.1, s'.ev p.2)) = parts.toList.map fun p => (p.1, s.ev p.2) := List.map_congr_left fun p hp => by rw [hev p hp]
        have e2 : (parts.toList.map fun p => s'.ev p.2) = parts.toList.map fun p => s.ev p.2 := List.map_congr_left fun p hp => by rw [hev p hp]
        have hps : (parts.toList.map fun p => (p.1, s.ev p.2)).map (·.2) = parts.toList.map fun p => s.ev p.2 := by simp [Function.comp_def]
        refine .litD d e z rows t len parts ho hd (by rw [← z106 (hag d (by simp))]; exact hf) (by rw [← htl]; exact hdl) ?_ (by rw [e2]; exact hr)
        rw [e1, ← hb]
        unfold opBuildSlice
        rw [hps, hr]
        simp only [z162 (s := s') (s' := s) hr, St.arrs]
      · exact h.elim
    · obtain ⟨e, N, h1, h2⟩ := z232 h
      exact ⟨e, none, N, ⟨.old e h1.1, fun s' he _ _ hag => .old e (h1.2 s' he hag)⟩, h2⟩
  · obtain ⟨e, N, h1, h2⟩ := z232 h
    exact ⟨e, none, N, ⟨.old e h1.1, fun s' he _ _ hag => .old e (h1.2 s' he hag)⟩, h2⟩
theorem z295 {e : Eff} {k : Option Nat} {N : List Nat} {i : Nat} (h1 : EffGA P ops o s e k) (h2 : ∀ s' : St, (∀ t ∈ o.looksAt ops, s.ev (.tmp t) = s'.ev (.tmp t)) → s.t.length = s'.t.length → s.m.length = s'.m.length → Agree N s.m s'.m → EffGA P ops o s' e k) :
    LocalA P ops o s ⟨i, e, k, N, lookRefs s ops o ++ e.v.refs, lookWhole s ops o⟩ :=
  ⟨h1, h2, fun t ht n hn => List.mem_append_left _ (by simp only [lookRefs, List.mem_flatMap]; exact ⟨t, ht, hn⟩), fun hu t ht => by simp only [lookWhole, List.all_eq_true] at hu; exact hu t ht, fun n hn => List.mem_append_right _ hn⟩
theorem z250 {rl : List Nat} {B0 : List (Nat × List Nat)} : ∀ (os : List Oper) (i : Nat) (acc : List KeyA) (s : St) (K : St → Prop), (∀ j o, os[j]? = some o → ops[i + j]? = some o) → runA P rl ops B0 os i acc s K →
    ∃ rs s', ChainA P ops rs s s' ∧ rs.map (·.i) = List.range' i os.length ∧ pairsA ops (inBoxes B0 (acc.reverse ++ rs.map RecA.key)) (masks ops.toList []) (acc.reverse ++ rs.map RecA.key) = true ∧ K s'
  | [], i, acc, s, K, _, h => ⟨[], s, .nil s, rfl, by simpa using h.1, h.2⟩
  | o :: os, i, acc, s, K, hos, h => by
    obtain ⟨hd, h⟩ := h
    have hos' : ∀ j o', os[j]? = some o' → ops[i + 1 + j]? = some o' := fun j o' hj => by have := hos (j + 1) o' (by simpa using hj); rwa [show i + 1 + j = i + (j + 1) by omega]
    have ho : ops[i]? = some o := by simpa using hos 0 o (by simp)
    have fin : ∀ (e : Eff) (k : Option Nat) (N : List Nat), LocalA P ops o s ⟨i, e, k, N, lookRefs s ops o ++ e.v.refs, lookWhole s ops o⟩ →
        (∃ rs s', ChainA P ops rs (s.applyA o.dst e k) s' ∧ rs.map (·.i) = List.range' (i + 1) os.length ∧ pairsA ops (inBoxes B0 (((i, e.name, N, k, lookRefs s ops o ++ e.v.refs, lookWhole s ops o, boxE e) :: acc).reverse ++ rs.map RecA.key)) (masks ops.toList []) (((i, e.name, N, k, lookRefs s ops o ++ e.v.refs, lookWhole s ops o, boxE e) :: acc).reverse ++ rs.map RecA.key) = true ∧ K s') →
        ∃ rs s', ChainA P ops rs s s' ∧ rs.map (·.i) = List.range' i (o :: os).length ∧ pairsA ops (inBoxes B0 (acc.reverse ++ rs.map RecA.key)) (masks ops.toList []) (acc.reverse ++ rs.map RecA.key) = true ∧ K s' := by
      rintro e k N hl ⟨rs, s', h1, h2, h3, h4⟩
      refine ⟨⟨i, e, k, N, lookRefs s ops o ++ e.v.refs, lookWhole s ops o⟩ :: rs, s', .cons ho hd hl h1, by simp [h2, List.range'_succ], ?_, h4⟩
      simpa [RecA.key] using h3
    cases hg : guardT ops o with
    | none => rw [hg] at h; exact h.elim
    | some g =>
      rw [hg] at h
      cases g with
      | none =>
        obtain ⟨e, k, N, ⟨h1, h1'⟩, h2⟩ := z611 h
        refine fin e k N (z295 (by simp only [EffGA, hg]; exact h1) fun s' he htl hml ha => ?_) (z250 os (i + 1) _ _ K hos' h2)
        simp only [EffGA, hg]
        exact h1' s' (z297 he) htl hml ha
      | some tw =>
        obtain ⟨t, want⟩ := tw
        obtain ⟨j, hj, ht⟩ := z147 hg
        have hmem : t ∈ o.looksAt ops := List.mem_append_right _ (by rw [hj]; simp [ht])
        have h := h _ fun e k N hs => z250 os (i + 1) _ _ K hos' hs
        unfold guardK at h
        split at h
        · rename_i b hev
          by_cases hb : b = want
          · obtain ⟨e, k, N, ⟨h1, h1'⟩, h2⟩ := z611 (h.1 hb)
            refine fin e k N (z295 (by simp only [EffGA, hg]; exact .inl ⟨by rw [hev, hb], h1⟩) fun s' he htl hml ha => ?_) h2
            simp only [EffGA, hg]
            exact .inl ⟨by rw [← he t hmem, hev, hb], h1' s' (z297 he) htl hml ha⟩
          · have hb' : b = !want := by cases b <;> cases want <;> simp_all
            refine fin _ _ _ (z295 (by unfold EffGA; rw [hg]; exact .inr ⟨.inl (by rw [hev, hb']), rfl, rfl⟩) fun s' he htl hml ha => ?_) (h.2 hb')
            unfold EffGA; rw [hg]
            exact .inr ⟨.inl (by rw [← he t hmem, hev, hb']), rfl, rfl⟩
        · rename_i hev
          refine fin _ _ _ (z295 (by unfold EffGA; rw [hg]; exact .inr ⟨.inr hev, rfl, rfl⟩) fun s' he htl hml ha => ?_) h
          unfold EffGA; rw [hg]
          exact .inr ⟨.inr (by rw [← he t hmem, hev]), rfl, rfl⟩
        · exact h.elim
theorem z633 {rl : List Nat} {id : Nat} (hfol : P.follows .mixedOrders = true) (hback : backB ops = true) (h : runA P rl ops (boxTab st.m 0) ops.toList 0 [] st (Q .normal k)) : Walk P rd n J (.region id ops true) k st Q := fun B base out μ tmps w ds _ hst hJ hM => by
  obtain ⟨rs, s', h1, h2, h3, h4⟩ := z250 _ _ _ _ _ (fun j o hj => by simpa using hj) h
  simp only [List.reverse_nil, List.nil_append] at h3
  have hfree := z588 (s := st) rs
  refine z164 (ix := RecA.i) (I := fun a b => indepA ops (inBoxes (boxTab st.m 0) (rs.map RecA.key)) a.key b.key = true) (C := FreeChain P ops (inBoxes (boxTab st.m 0) (rs.map RecA.key)) (killsOf rs)) (fun s s' h => by obtain ⟨_, _, h⟩ := h; cases h; rfl) ?_ ?_ hfol hback (by rw [h2, List.range_eq_range']; simp)
    (z320 (fun k i => z131 ops.toList [] (fun k i hk => by simp at hk) (fun k o hk => by simpa using hk) k i) h3) ⟨hfree.1, hfree.2, h1⟩ hst fun tmps' μ' w' h5 hk hS => .step hJ h5 hk hS hM h4
  · rintro r rs' s s' ⟨hF, hR, hc⟩
    cases hc with
    | cons ho hd hl ht => exact ⟨_, _, ho, hd, hl.eff.step, hF.apply (hR r (by simp)).2, fun q hq => hR q (by simp [hq]), ht⟩
  · rintro r B s s' A hA ⟨hF, hR, hc⟩
    refine ⟨hF, fun q hq => hR q ?_, z935 (hR r (by simp)) A s hF (fun a ha => hR a (by simp [ha])) hA hc⟩
    simp only [List.mem_cons, List.mem_append] at hq ⊢
    rcases hq with rfl | hq | hq
    · exact .inr (.inl rfl)
    · exact .inl hq
    · exact .inr (.inr hq)
theorem z85 {id : Nat} {cs : List Code} (rl : List Nat) (hfol : P.follows .mixedOrders = true) (hback : backB ops = true) (h : ∀ K : St → Prop, (∀ s, WalkL P rd n J cs k s Q → K s) → runA P rl ops (boxTab st.m 0) ops.toList 0 [] st K) : WalkL P rd n J (.region id ops true :: cs) k st Q :=
  z633 hfol hback (h _ fun _ h => h)
theorem z275 {id : Nat} {cs : List Code} (hfol : P.follows .mixedOrders = true) (hback : backB ops = true) (h : ∀ K : St → Prop, (∀ s, WalkL P rd n J cs k s Q → K s) → runA P [] ops (boxTab st.m 0) ops.toList 0 [] st K) : WalkL P rd n J (.region id ops true :: cs) k st Q :=
  z85 [] hfol hback h
end
def oldA (C : Eff → Option Nat → List Nat → Prop) (e : Eff) (N : List Nat) : Prop := C e none N
theorem z1035 (P : Program) (rl : List Nat) (o : Oper) (s : St) (C : Eff → Option Nat → List Nat → Prop) : effA P rl o s C = (match o.op with
  | .call { callee := .builtin .append, args, argTypes } => match argTypes.toList, args.toList with
    | [t, t'], [a, x] => bindK (appOf P s o.dst t t' (s.ev a) (s.ev x)) fun r => bindK (relE rl o.dst s r) fun r => C r.1 r.2 ((s.ev a).refs ++ (s.ev x).refs ++ o.dst.toList)
    | _, _ => False
  | .buildSlice t len parts => if relB rl o.dst = true then (bindK o.dst fun d => bindK (opBuildSlice P s t len (parts.toList.map fun p => (p.1, s.ev p.2))) fun b =>
      AV.refsAll (parts.toList.map fun p => s.ev p.2) = [] ∧ s.fresh d = true ∧ match s.t[d]?, b with
        | some _, .arr _ _ rows => C ⟨.d (.sl rows), none⟩ none [d]
        | _, _ => False) else effK P o s (oldA C)
  | _ => effK P o s (oldA C)) := rfl
theorem z612 {P : Program} {rl : List Nat} {o : Oper} {s : St} {C C' : Eff → Option Nat → List Nat → Prop} (h : effA P rl o s C) (hC : ∀ e k N, C e k N → C' e k N) : effA P rl o s C' := by
  unfold effA at h ⊢
  split
  · rename_i ho
    simp only [ho] at h
    split at h
    · obtain ⟨r, h1, r', h2, h3⟩ := h
      exact ⟨r, h1, r', h2, hC _ _ _ h3⟩
    · exact h.elim
  · rename_i ho
    simp only [ho] at h
    split at h
    · rename_i hr
      rw [if_pos hr]
      obtain ⟨d, hd, b, hb, h1, h2, h3⟩ := h
      refine ⟨d, hd, b, hb, h1, h2, ?_⟩
      split at h3
      · exact hC _ _ _ h3
      · exact h3.elim
    · rename_i hr
      rw [if_neg hr]
      exact z233 h fun e N hc => hC _ _ _ hc
  · rename_i hno hno2
    split at h
    · rename_i ho; exact absurd ho (hno _ _)
    · rename_i ho; exact absurd ho (hno2 _ _ _)
    · exact z233 h fun e N hc => hC _ _ _ hc
theorem z598 (P : Program) (rl : List Nat) (o : Oper) (s : St) (R : Eff → Option Nat → List Nat → Prop) : guardRunA P rl (.d (.bool true)) true o s R = effA P rl o s R := by
  apply propext
  exact ⟨fun h => (h R (fun _ _ _ h => h)).1 rfl, fun h K' hK => ⟨fun _ => z612 h hK, fun e => (by cases e)⟩⟩
theorem z601 (P : Program) (rl : List Nat) (o : Oper) (s : St) (R : Eff → Option Nat → List Nat → Prop) : guardRunA P rl (.d (.bool false)) false o s R = effA P rl o s R := by
  apply propext
  exact ⟨fun h => (h R (fun _ _ _ h => h)).1 rfl, fun h K' hK => ⟨fun _ => z612 h hK, fun e => (by cases e)⟩⟩
theorem z599 (P : Program) (rl : List Nat) (o : Oper) (s : St) (R : Eff → Option Nat → List Nat → Prop) : guardRunA P rl (.d (.bool true)) false o s R = R ⟨.void, none⟩ none [] := by
  apply propext
  exact ⟨fun h => (h R (fun _ _ _ h => h)).2 rfl, fun h K' hK => ⟨fun e => (by cases e), fun _ => hK _ _ _ h⟩⟩
theorem z600 (P : Program) (rl : List Nat) (o : Oper) (s : St) (R : Eff → Option Nat → List Nat → Prop) : guardRunA P rl (.d (.bool false)) true o s R = R ⟨.void, none⟩ none [] := by
  apply propext
  exact ⟨fun h => (h R (fun _ _ _ h => h)).2 rfl, fun h K' hK => ⟨fun e => (by cases e), fun _ => hK _ _ _ h⟩⟩
theorem z388 (P : Program) (rl : List Nat) (want : Bool) (o : Oper) (s : St) (R : Eff → Option Nat → List Nat → Prop) : guardRunA P rl .void want o s R = R ⟨.void, none⟩ none [] := by
  apply propext
  exact ⟨fun h => h R (fun _ _ _ h => h), fun h K' hK => hK _ _ _ h⟩
def contA (P : Program) (rl : List Nat) (ops : Array Oper) (B0 : List (Nat × List Nat)) (os : List Oper) (i : Nat) (acc : List KeyA) (s : St) (o : Oper) (K : St → Prop) (e : Eff) (k : Option Nat) (N : List Nat) : Prop :=
  runA P rl ops B0 os (i + 1) ((i, e.name, N, k, lookRefs s ops o ++ e.v.refs, lookWhole s ops o, boxE e) :: acc) (s.applyA o.dst e k) K
theorem z959 (P : Program) (rl : List Nat) (ops : Array Oper) (B0 : List (Nat × List Nat)) (i : Nat) (acc : List KeyA) (s : St) (K : St → Prop) : runA P rl ops B0 [] i acc s K = (pairsA ops (inBoxes B0 acc.reverse) (masks ops.toList []) acc.reverse = true ∧ K s) := rfl
theorem z883 (P : Program) (rl : List Nat) (ops : Array Oper) (B0 : List (Nat × List Nat)) (o : Oper) (os : List Oper) (i : Nat) (acc : List KeyA) (x : AV) (t : List AV) (m : List (Option Blk)) (K : St → Prop) : runA P rl ops B0 (o :: os) i acc ⟨x :: t, m⟩ K = (dstOk o = true ∧ match guardT ops o with
    | none => False
    | some none => effA P rl o ⟨x :: t, m⟩ (contA P rl ops B0 os i acc ⟨x :: t, m⟩ o K)
    | some (some (t', want)) => guardRunA P rl ((⟨x :: t, m⟩ : St).ev (.tmp t')) want o ⟨x :: t, m⟩ (contA P rl ops B0 os i acc ⟨x :: t, m⟩ o K)) := rfl
theorem z831 (t : List AV) : killT none t = t := rfl
theorem z830 (n : Nat) (t : List AV) : killT (some n) t = t.map (AV.sub n fun _ => .undef) := rfl
theorem z833 (m : List (Option Blk)) : killM none m = m := rfl
theorem z832 (n : Nat) (m : List (Option Blk)) : killM (some n) m = subMem n (fun _ => .undef) m := rfl
theorem z960 (dst : Option Tmp) (s : St) (r : Eff × Option Nat) : relE [] dst s r = some r := by cases dst <;> rfl
theorem z961 (dst : Option Tmp) : relB [] dst = false := by cases dst <;> rfl
theorem z885 (rl : List Nat) (d : Tmp) : relB rl (some d) = rl.contains d := rfl
attribute [go_sem] z960 z961 z885 relE List.contains_nil
attribute [go_sem] List.contains_cons z959 z883 contA oldA z1035 appOf boxTab z833 z832 St.applyA z831 z830 z598 z601 z599 z600 z388
theorem CallR.made {P : Program} {st : St} {dst : Option Tmp} {g : FuncId} {xs : List AV} {ds : List DV} {r : AV} {m1 : List Blk} (news : List Nat) (hf : FnG P g [] [] (ds.map AV.d) r m1) (hd : reifyAll st xs = some ds) (hn : news.Nodup) (hl : news.length = m1.length)
    (hnew : news.all st.fresh = true) (hx : AV.refsAll xs = []) : CallR P st dst g xs (({ st with m := putM news (m1.map (Blk.mapN fun i => news[i]?)) st.m } : St).put dst (r.mapN fun i => news[i]?)) := by
  obtain ⟨h1, h2⟩ := z26 hd
  have := CallR.gen (dst := dst) (st := st) (xs := xs) [] [] (ds.map AV.d) r m1 [] news [] [] hf (by simpa using hn) rfl (by simpa using hl) (by intro i b h; simp at h) (fun n hn => z33 (List.all_eq_true.1 hnew n hn)) (by simpa using h1) (fun i x y hi hy => by
    simp only [List.getElem?_map, Option.map_eq_some_iff] at hy
    obtain ⟨d, hy, rfl⟩ := hy
    have h3 := h2 i d hy
    simp only [List.getElem?_map, Option.map_eq_some_iff] at h3
    obtain ⟨x', hx', hr⟩ := h3
    rw [hi] at hx'
    cases hx'
    refine .inl ⟨d, rfl, hr, fun n hn => ?_⟩
    have := z708 hx (List.mem_of_getElem? hi)
    rw [this] at hn
    cases hn) (by simp) (by intro n hn; simp at hn) (by intro i n h; simp at h) (.inl rfl)
  exact this
theorem z84 (l : List Nat) (st : St) : Weak st (releaseAll l st) := by
  intro P base out μ tmps w h
  obtain ⟨μ', h1, _, _, h2, _⟩ := z66 l st μ h
  exact ⟨μ', h1, h2⟩
theorem z23 {P : Program} {rd : Option Nat} {n : Nat} {J : Env} {c : Code} {cs : List Code} {k : Option Nat} {st : St} {Q : Exit → Option Nat → St → Prop} (l : List Nat) (h : WalkL P rd n J (c :: cs) k (releaseAll l st) Q) : WalkL P rd n J (c :: cs) k st Q :=
  z63 (z84 l st) h
theorem CallR.inPlace {P : Program} {st : St} {dst : Option Tmp} {g : FuncId} {xs : List AV} (n : Nat) {b0 b0' b1 : Blk} {args : List AV} {r : AV} (hf : FnG P g [b0] [0] args r [b1]) (hn : st.m[n]? = some (some b0')) (hb : b0 = b0'.mapN (inv [n])) (hla : xs.length = args.length)
    (ha : ∀ (i : Nat) x y, xs[i]? = some x → args[i]? = some y → argG st [n] [] x y) : CallR P st dst g xs (({ st with m := st.m.set n (some (b1.mapN fun i => [n][i]?)) } : St).put dst (r.mapN fun i => [n][i]?)) := by
  have := CallR.gen (dst := dst) (st := st) [b0] [0] args r [b1] [n] [] [] [] hf (by simp) rfl rfl (fun i b hi => by
    cases i with
    | zero => cases hi; exact ⟨n, b0', rfl, hn, hb⟩
    | succ i => simp at hi) (by simp) hla ha (by simp) (by intro n hn; simp at hn) (fun i k hi _ => by
    cases i with
    | zero => simp
    | succ i => simp at hi) (.inl rfl)
  exact this
end Go.Ab
/- Arrays of which the room is asked: full, or with room behind; and arrays with room that settle. -/
namespace Go.Ab
open Go.RowKit
def roomed (len : Nat) : AV → AV
  | .own n => .vc n len
  | .view n off k => .view n off k
  | .elem n i o => .elem n i o
  | _ => .undef
def fulled (e : TypeId) (z : Nat) (rows : List (List DV)) : AV → AV
  | .own _ => .dfull rows
  | y => snapLeaf (.arr e z rows) y
def settled (len : Nat) : AV → AV
  | .vh n k => if k = len then .own n else .undef
  | .view n off k => if off + k ≤ len then .view n off k else .undef
  | .elem n i o => .elem n i o
  | _ => .undef
def St.roomed (n : Nat) (st : St) : St := match (st.m[n]? : Option (Option Blk)) with
  | some (some (.arr e z rows)) => { t := st.t.map (AV.sub n (Ab.roomed rows.length)), m := (subMem n (Ab.roomed rows.length) st.m).set n (some (.arrP e z rows)) }
  | _ => st
def St.fulled (n : Nat) (st : St) : St := match (st.m[n]? : Option (Option Blk)) with
  | some (some (.arr e z rows)) => { t := st.t.map (AV.sub n (Ab.fulled e z rows)), m := subMem n (Ab.fulled e z rows) (st.m.set n none) }
  | _ => st
def St.settle (n : Nat) (st : St) : St := match (st.m[n]? : Option (Option Blk)) with
  | some (some (.arrP e z rows)) => { t := st.t.map (AV.sub n (settled rows.length)), m := (subMem n (settled rows.length) st.m).set n (some (.arr e z rows)) }
  | _ => st
theorem z91 (n : Nat) (f : AV → AV) : ∀ m : List (Option Blk), (subMem n f m).length = m.length
  | [] => rfl
  | none :: l => by simp [subMem, z91 n f l]
  | some _ :: l => by simp [subMem, z91 n f l]
section
variable {P : Program} {base : Own} {out : Own} {st st' : St} {μ : Pl} {tmps : Array Value} {w w' : World}
theorem z1017 {n b z l c l' c' : Nat} (hμ : μ n = some (.at b z l c)) : ∀ q, ownOf out (μ.upd n (some (.at b z l' c'))) q → ownOf out μ q := by
  rintro q (hq | ⟨k, z2, l2, c2, hq⟩)
  · exact .inl hq
  · by_cases hk : k = n
    · subst hk; rw [Pl.upd_same] at hq; cases hq; exact .inr ⟨k, _, _, _, hμ⟩
    · rw [Pl.upd_ne μ _ hk] at hq; exact .inr ⟨k, z2, l2, c2, hq⟩
end
attribute [go_sem] St.roomed St.fulled St.settle roomed fulled settled opSlice3
end Go.Ab
/- The program's type table, as the engine asks for it. -/
namespace Go.Ab
open Go.RowKit Go.Proofs
theorem z870 : tsz Try.prog 0 = (some 1) := by kernel_rfl
theorem z528 : tbytes Try.prog 0 = (some 0) := by kernel_rfl
theorem z818 : tagg Try.prog 0 = (some false) := by kernel_rfl
theorem z869 : tsz Try.prog 1 = (some 1) := by kernel_rfl
theorem z527 : tbytes Try.prog 1 = (some 8) := by kernel_rfl
theorem z817 : tagg Try.prog 1 = (some false) := by kernel_rfl
theorem z868 : tsz Try.prog 2 = (some 1) := by kernel_rfl
theorem z526 : tbytes Try.prog 2 = (some 8) := by kernel_rfl
theorem z816 : tagg Try.prog 2 = (some false) := by kernel_rfl
theorem z810 : tint Try.prog 2 = (some IntKind.i64) := by kernel_rfl
theorem z867 : tsz Try.prog 3 = (some 1) := by kernel_rfl
theorem z525 : tbytes Try.prog 3 = (some 8) := by kernel_rfl
theorem z815 : tagg Try.prog 3 = (some false) := by kernel_rfl
theorem z809 : tint Try.prog 3 = (some IntKind.i64) := by kernel_rfl
theorem z866 : tsz Try.prog 4 = (some 1) := by kernel_rfl
theorem z524 : tbytes Try.prog 4 = (some 1) := by kernel_rfl
theorem z814 : tagg Try.prog 4 = (some false) := by kernel_rfl
theorem z808 : tsz Try.prog 11 = (some 1) := by kernel_rfl
theorem z464 : tbytes Try.prog 11 = (some 16) := by kernel_rfl
theorem z700 : tagg Try.prog 11 = (some false) := by kernel_rfl
theorem z807 : tsz Try.prog 17 = (some 1) := by kernel_rfl
theorem z463 : tbytes Try.prog 17 = (some 8) := by kernel_rfl
theorem z699 : tagg Try.prog 17 = (some false) := by kernel_rfl
theorem z806 : tsz Try.prog 22 = (some 1) := by kernel_rfl
theorem z462 : tbytes Try.prog 22 = (some 24) := by kernel_rfl
theorem z698 : tagg Try.prog 22 = (some false) := by kernel_rfl
theorem z437 : tslice Try.prog 22 = (some 3) := by kernel_rfl
theorem z805 : tsz Try.prog 23 = (some 1) := by kernel_rfl
theorem z461 : tbytes Try.prog 23 = (some 24) := by kernel_rfl
theorem z697 : tagg Try.prog 23 = (some false) := by kernel_rfl
theorem z436 : tslice Try.prog 23 = (some 47) := by kernel_rfl
theorem z804 : tsz Try.prog 24 = (some 1) := by kernel_rfl
theorem z460 : tbytes Try.prog 24 = (some 24) := by kernel_rfl
theorem z696 : tagg Try.prog 24 = (some false) := by kernel_rfl
theorem z435 : tslice Try.prog 24 = (some 72) := by kernel_rfl
theorem z803 : tsz Try.prog 25 = (some 1) := by kernel_rfl
theorem z459 : tbytes Try.prog 25 = (some 24) := by kernel_rfl
theorem z695 : tagg Try.prog 25 = (some false) := by kernel_rfl
theorem z434 : tslice Try.prog 25 = (some 58) := by kernel_rfl
theorem z802 : tsz Try.prog 27 = (some 4) := by kernel_rfl
theorem z458 : tbytes Try.prog 27 = (some 96) := by kernel_rfl
theorem z694 : tagg Try.prog 27 = (some true) := by kernel_rfl
theorem z372 : tfields Try.prog 27 = (some [(0, (1, false)), (1, (1, false)), (2, (1, false)), (3, (1, false))]) := by kernel_rfl
theorem z801 : tsz Try.prog 28 = (some 1) := by kernel_rfl
theorem z457 : tbytes Try.prog 28 = (some 24) := by kernel_rfl
theorem z693 : tagg Try.prog 28 = (some false) := by kernel_rfl
theorem z433 : tslice Try.prog 28 = (some 22) := by kernel_rfl
theorem z800 : tsz Try.prog 33 = (some 1) := by kernel_rfl
theorem z456 : tbytes Try.prog 33 = (some 8) := by kernel_rfl
theorem z692 : tagg Try.prog 33 = (some false) := by kernel_rfl
theorem z672 : tint Try.prog 33 = (some IntKind.i64) := by kernel_rfl
theorem z799 : tsz Try.prog 47 = (some 3) := by kernel_rfl
theorem z455 : tbytes Try.prog 47 = (some 24) := by kernel_rfl
theorem z691 : tagg Try.prog 47 = (some true) := by kernel_rfl
theorem z371 : tfields Try.prog 47 = (some [(0, (1, false)), (1, (1, false)), (2, (1, false))]) := by kernel_rfl
theorem z813 : teq Try.prog 47 = (some [(0, false), (1, false), (2, false)]) := by kernel_rfl
theorem z798 : tsz Try.prog 55 = (some 2) := by kernel_rfl
theorem z454 : tbytes Try.prog 55 = (some 16) := by kernel_rfl
theorem z690 : tagg Try.prog 55 = (some true) := by kernel_rfl
theorem z370 : tfields Try.prog 55 = (some [(0, (1, false)), (1, (1, false))]) := by kernel_rfl
theorem z812 : teq Try.prog 55 = (some [(0, false), (1, false)]) := by kernel_rfl
theorem z797 : tsz Try.prog 57 = (some 3) := by kernel_rfl
theorem z453 : tbytes Try.prog 57 = (some 24) := by kernel_rfl
theorem z689 : tagg Try.prog 57 = (some true) := by kernel_rfl
theorem z369 : tfields Try.prog 57 = (some [(0, (1, false)), (1, (2, true))]) := by kernel_rfl
theorem z811 : teq Try.prog 57 = (some [(0, false), (1, false), (2, false)]) := by kernel_rfl
theorem z796 : tsz Try.prog 58 = (some 1) := by kernel_rfl
theorem z452 : tbytes Try.prog 58 = (some 24) := by kernel_rfl
theorem z688 : tagg Try.prog 58 = (some false) := by kernel_rfl
theorem z432 : tslice Try.prog 58 = (some 57) := by kernel_rfl
theorem z795 : tsz Try.prog 72 = (some 1) := by kernel_rfl
theorem z451 : tbytes Try.prog 72 = (some 24) := by kernel_rfl
theorem z687 : tagg Try.prog 72 = (some true) := by kernel_rfl
theorem z368 : tfields Try.prog 72 = (some [(0, (1, false))]) := by kernel_rfl
theorem z794 : tsz Try.prog 75 = (some 1) := by kernel_rfl
theorem z450 : tbytes Try.prog 75 = (some 8) := by kernel_rfl
theorem z686 : tagg Try.prog 75 = (some false) := by kernel_rfl
theorem z793 : tsz Try.prog 77 = (some 4) := by kernel_rfl
theorem z449 : tbytes Try.prog 77 = (some 96) := by kernel_rfl
theorem z685 : tagg Try.prog 77 = (some true) := by kernel_rfl
theorem z367 : tfields Try.prog 77 = (some [(0, (4, true))]) := by kernel_rfl
theorem z792 : tsz Try.prog 78 = (some 1) := by kernel_rfl
theorem z448 : tbytes Try.prog 78 = (some 8) := by kernel_rfl
theorem z684 : tagg Try.prog 78 = (some false) := by kernel_rfl
theorem z523 : tmapK Try.prog 78 = (some ((some 11), 85)) := by kernel_rfl
theorem z791 : tsz Try.prog 80 = (some 5) := by kernel_rfl
theorem z447 : tbytes Try.prog 80 = (some 104) := by kernel_rfl
theorem z683 : tagg Try.prog 80 = (some true) := by kernel_rfl
theorem z366 : tfields Try.prog 80 = (some [(0, (4, true)), (4, (1, false))]) := by kernel_rfl
theorem z790 : tsz Try.prog 81 = (some 10) := by kernel_rfl
theorem z446 : tbytes Try.prog 81 = (some 80) := by kernel_rfl
theorem z682 : tagg Try.prog 81 = (some true) := by kernel_rfl
theorem z673 : tarr Try.prog 81 = (some 10) := by kernel_rfl
theorem z529 : tslice Try.prog 81 = none := by kernel_rfl
theorem z789 : tsz Try.prog 83 = (some 11) := by kernel_rfl
theorem z445 : tbytes Try.prog 83 = (some 88) := by kernel_rfl
theorem z681 : tagg Try.prog 83 = (some true) := by kernel_rfl
theorem z365 : tfields Try.prog 83 = (some [(0, (1, false)), (1, (10, true))]) := by kernel_rfl
theorem z788 : tsz Try.prog 85 = (some 2) := by kernel_rfl
theorem z444 : tbytes Try.prog 85 = (some 32) := by kernel_rfl
theorem z680 : tagg Try.prog 85 = (some true) := by kernel_rfl
theorem z364 : tfields Try.prog 85 = (some [(0, (1, false)), (1, (1, false))]) := by kernel_rfl
theorem z787 : tsz Try.prog 87 = (some 1) := by kernel_rfl
theorem z443 : tbytes Try.prog 87 = (some 8) := by kernel_rfl
theorem z679 : tagg Try.prog 87 = (some false) := by kernel_rfl
theorem z786 : tsz Try.prog 90 = (some 7) := by kernel_rfl
theorem z442 : tbytes Try.prog 90 = (some 152) := by kernel_rfl
theorem z678 : tagg Try.prog 90 = (some true) := by kernel_rfl
theorem z363 : tfields Try.prog 90 = (some [(0, (4, true)), (4, (1, false)), (5, (1, false)), (6, (1, false))]) := by kernel_rfl
theorem z785 : tsz Try.prog 92 = (some 1) := by kernel_rfl
theorem z441 : tbytes Try.prog 92 = (some 8) := by kernel_rfl
theorem z677 : tagg Try.prog 92 = (some false) := by kernel_rfl
theorem z784 : tsz Try.prog 94 = (some 1) := by kernel_rfl
theorem z440 : tbytes Try.prog 94 = (some 8) := by kernel_rfl
theorem z676 : tagg Try.prog 94 = (some false) := by kernel_rfl
theorem z783 : tsz Try.prog 95 = (some 1) := by kernel_rfl
theorem z439 : tbytes Try.prog 95 = (some 8) := by kernel_rfl
theorem z675 : tagg Try.prog 95 = (some false) := by kernel_rfl
theorem z782 : tsz Try.prog 96 = (some 1) := by kernel_rfl
theorem z438 : tbytes Try.prog 96 = (some 24) := by kernel_rfl
theorem z674 : tagg Try.prog 96 = (some false) := by kernel_rfl
theorem z431 : tslice Try.prog 96 = (some 28) := by kernel_rfl
theorem z671 : tsz Try.prog 103 = (some 1) := by kernel_rfl
theorem z378 : tbytes Try.prog 103 = (some 8) := by kernel_rfl
theorem z535 : tagg Try.prog 103 = (some false) := by kernel_rfl
theorem z670 : tsz Try.prog 110 = (some 1) := by kernel_rfl
theorem z377 : tbytes Try.prog 110 = (some 8) := by kernel_rfl
theorem z534 : tagg Try.prog 110 = (some false) := by kernel_rfl
theorem z669 : tsz Try.prog 112 = (some 1) := by kernel_rfl
theorem z376 : tbytes Try.prog 112 = (some 8) := by kernel_rfl
theorem z533 : tagg Try.prog 112 = (some false) := by kernel_rfl
theorem z668 : tsz Try.prog 114 = (some 1) := by kernel_rfl
theorem z375 : tbytes Try.prog 114 = (some 8) := by kernel_rfl
theorem z532 : tagg Try.prog 114 = (some false) := by kernel_rfl
theorem z667 : tsz Try.prog 115 = (some 1) := by kernel_rfl
theorem z374 : tbytes Try.prog 115 = (some 8) := by kernel_rfl
theorem z531 : tagg Try.prog 115 = (some false) := by kernel_rfl
theorem z666 : tsz Try.prog 117 = (some 1) := by kernel_rfl
theorem z373 : tbytes Try.prog 117 = (some 8) := by kernel_rfl
theorem z530 : tagg Try.prog 117 = (some false) := by kernel_rfl
theorem z781 : tzero Try.prog 1 = some Value.nilFunc := by kernel_rfl
theorem z780 : tzero Try.prog 2 = some (Value.int IntKind.i64 0) := by kernel_rfl
theorem z779 : tzero Try.prog 3 = some (Value.int IntKind.i64 0) := by kernel_rfl
theorem z778 : tzero Try.prog 4 = some (Value.bool false) := by kernel_rfl
theorem z665 : tzero Try.prog 17 = some (Value.pointer none) := by kernel_rfl
theorem z664 : tzero Try.prog 22 = some (Value.slice none 0 0) := by kernel_rfl
theorem z663 : tzero Try.prog 23 = some (Value.slice none 0 0) := by kernel_rfl
theorem z662 : tzero Try.prog 24 = some (Value.slice none 0 0) := by kernel_rfl
theorem z661 : tzero Try.prog 25 = some (Value.slice none 0 0) := by kernel_rfl
theorem z660 : tzero Try.prog 27 = some (Value.agg #[Value.slice none 0 0, Value.slice none 0 0, Value.slice none 0 0, Value.slice none 0 0]) := by kernel_rfl
theorem z659 : tzero Try.prog 28 = some (Value.slice none 0 0) := by kernel_rfl
theorem z658 : tzero Try.prog 33 = some (Value.int IntKind.i64 0) := by kernel_rfl
theorem z657 : tzero Try.prog 47 = some (Value.agg #[Value.int IntKind.i64 0, Value.int IntKind.i64 0, Value.int IntKind.i64 0]) := by kernel_rfl
theorem z656 : tzero Try.prog 55 = some (Value.agg #[Value.int IntKind.i64 0, Value.int IntKind.i64 0]) := by kernel_rfl
theorem z655 : tzero Try.prog 57 = some (Value.agg #[Value.int IntKind.i64 0, Value.int IntKind.i64 0, Value.int IntKind.i64 0]) := by kernel_rfl
theorem z654 : tzero Try.prog 58 = some (Value.slice none 0 0) := by kernel_rfl
theorem z653 : tzero Try.prog 72 = some (Value.agg #[Value.slice none 0 0]) := by kernel_rfl
theorem z652 : tzero Try.prog 75 = some (Value.pointer none) := by kernel_rfl
theorem z651 : tzero Try.prog 77 = some (Value.agg #[Value.slice none 0 0, Value.slice none 0 0, Value.slice none 0 0, Value.slice none 0 0]) := by kernel_rfl
theorem z650 : tzero Try.prog 78 = some (Value.map none) := by kernel_rfl
theorem z649 : tzero Try.prog 80 = some (Value.agg #[Value.slice none 0 0, Value.slice none 0 0, Value.slice none 0 0, Value.slice none 0 0, Value.map none]) := by kernel_rfl
theorem z648 : tzero Try.prog 81 = some (Value.agg #[Value.int IntKind.i64 0, Value.int IntKind.i64 0, Value.int IntKind.i64 0, Value.int IntKind.i64 0, Value.int IntKind.i64 0, Value.int IntKind.i64 0, Value.int IntKind.i64 0, Value.int IntKind.i64 0, Value.int IntKind.i64 0, Value.int IntKind.i64 0]) := by kernel_rfl
theorem z647 : tzero Try.prog 83 = some (Value.agg #[Value.int IntKind.i64 0, Value.int IntKind.i64 0, Value.int IntKind.i64 0, Value.int IntKind.i64 0, Value.int IntKind.i64 0, Value.int IntKind.i64 0, Value.int IntKind.i64 0, Value.int IntKind.i64 0, Value.int IntKind.i64 0, Value.int IntKind.i64 0, Value.int IntKind.i64 0]) := by kernel_rfl
theorem z646 : tzero Try.prog 85 = some (Value.agg #[Value.int IntKind.i64 0, Value.slice none 0 0]) := by kernel_rfl
theorem z645 : tzero Try.prog 87 = some (Value.pointer none) := by kernel_rfl
theorem z644 : tzero Try.prog 90 = some (Value.agg #[Value.slice none 0 0, Value.slice none 0 0, Value.slice none 0 0, Value.slice none 0 0, Value.slice none 0 0, Value.slice none 0 0, Value.int IntKind.i64 0]) := by kernel_rfl
theorem z643 : tzero Try.prog 92 = some Value.nilFunc := by kernel_rfl
theorem z642 : tzero Try.prog 94 = some Value.nilFunc := by kernel_rfl
theorem z641 : tzero Try.prog 95 = some Value.nilFunc := by kernel_rfl
theorem z640 : tzero Try.prog 96 = some (Value.slice none 0 0) := by kernel_rfl
theorem z522 : tzero Try.prog 103 = some Value.nilFunc := by kernel_rfl
theorem z521 : tzero Try.prog 110 = some Value.nilFunc := by kernel_rfl
theorem z520 : tzero Try.prog 112 = some Value.nilFunc := by kernel_rfl
theorem z519 : tzero Try.prog 114 = some Value.nilFunc := by kernel_rfl
theorem z518 : tzero Try.prog 115 = some Value.nilFunc := by kernel_rfl
theorem z517 : tzero Try.prog 117 = some Value.nilFunc := by kernel_rfl
attribute [go_sem] z870 z528 z818 z869 z527 z817 z868 z526 z816 z810 z867 z525 z815 z809 z866 z524 z814 z808 z464 z700 z807 z463 z699 z806 z462 z698 z437 z805 z461 z697 z436 z804 z460 z696 z435 z803 z459 z695 z434 z802 z458 z694 z372 z801 z457 z693 z433 z800 z456 z692 z672 z799 z455 z691 z371 z813 z798 z454 z690 z370 z812 z797 z453 z689 z369 z811 z796 z452 z688 z432 z795 z451 z687 z368 z794 z450 z686 z793 z449 z685 z367 z792 z448 z684 z523 z791 z447 z683 z366 z790 z446 z682 z673 z529 z789 z445 z681 z365 z788 z444 z680 z364 z787 z443 z679 z786 z442 z678 z363 z785 z441 z677 z784 z440 z676 z783 z439 z675 z782 z438 z674 z431 z671 z378 z535 z670 z377 z534 z669 z376 z533 z668 z375 z532 z667 z374 z531 z666 z373 z530 z781 z780 z779 z778 z665 z664 z663 z662 z661 z660 z659 z658 z657 z656 z655 z654 z653 z652 z651 z650 z649 z648 z647 z646 z645 z644 z643 z642 z641 z640 z522 z521 z520 z519 z518 z517 Try.underlying2 Try.underlying3 Try.underlying4 Try.underlying17 Try.underlying33 Try.underlying75 Try.underlying87
end Go.Ab
namespace Go.Ab
open Go.RowKit Go.Proofs
structure Span where
  lo : Int
  hi : Int
structure Hour where
  wind : Span
  rain : Span
  temp : Span
structure Sky where
  wind : Int
  rain : Int
  temp : Int
structure Sight where
  hour : Int
  sky : Sky
structure Plant where
  scen : List (List Hour)
  seen : List Sight
  sun : List Int
  gain : Int
  start : Int
  stop : Int
  charge : Int
  capacity : Int
  reserve : Int
  gas : Int
  rate : Int
  units : Int
  needs : List Int
def Span.row (s : Span) : List DV := [.i s.lo, .i s.hi]
def Hour.row (h : Hour) : List DV := [.i h.wind.lo, .i h.wind.hi, .i h.rain.lo, .i h.rain.hi, .i h.temp.lo, .i h.temp.hi]
def Sky.row (s : Sky) : List DV := [.i s.wind, .i s.rain, .i s.temp]
def Sight.row (s : Sight) : List DV := [.i s.hour, .i s.sky.wind, .i s.sky.rain, .i s.sky.temp]
def hourRows (l : List Hour) : List (List DV) := l.map Hour.row
def scenRows (l : List (List Hour)) : List (List DV) := l.map fun h => [.sl (hourRows h)]
def intRows (l : List Int) : List (List DV) := l.map fun x => [.i x]
def sightRows (l : List Sight) : List (List DV) := l.map Sight.row
def skyRows (l : List Sky) : List (List DV) := l.map Sky.row
def Plant.cells (p : Plant) : List DV := [.sl (scenRows p.scen), .sl (sightRows p.seen), .sl (intRows p.sun), .i p.gain, .i p.start, .i p.stop, .i p.charge, .i p.capacity, .i p.reserve, .i p.gas, .i p.rate, .i p.units, .sl (intRows p.needs)]
theorem z589 (l : List Hour) : (hourRows l).length = l.length := by simp [hourRows]
theorem z544 (l : List (List Hour)) : (scenRows l).length = l.length := by simp [scenRows]
theorem z19 (l : List Int) : (intRows l).length = l.length := by simp [intRows]
theorem z469 (l : List Sight) : (sightRows l).length = l.length := by simp [sightRows]
theorem z701 (l : List Sky) : (skyRows l).length = l.length := by simp [skyRows]
theorem z37 {l : List Int} {i : Nat} {x : Int} (h : l[i]? = some x) : (intRows l)[i]? = some [.i x] := by simp [intRows, h]
theorem z488 (l : List Hour) : headIs 6 (hourRows l) = true := by cases l <;> rfl
theorem z470 (l : List (List Hour)) : headIs 1 (scenRows l) = true := by cases l <;> rfl
theorem z586 (l : List Int) : headIs 1 (intRows l) = true := by cases l <;> rfl
theorem z379 (l : List Sight) : headIs 4 (sightRows l) = true := by cases l <;> rfl
theorem z540 (l : List Sky) : headIs 3 (skyRows l) = true := by cases l <;> rfl
attribute [go_sem] z589 z544 z19 z469 z701 z488 z470 z586 z379 z540
theorem z550 {α : Type} {f : α → List DV} (h : ∀ x, ∀ d ∈ f x, d.flat = true) (l : List α) : rowsFlat (l.map f) := by
  intro r hr d hd
  obtain ⟨x, _, rfl⟩ := List.mem_map.1 hr
  exact h x d hd
theorem z38 (l : List Int) : rowsFlat (intRows l) := z550 (by intro x d hd; simp at hd; subst hd; rfl) l
abbrev wr (x : Int) : Int := IntKind.i64.wrap x
theorem z16 {x : Int} (h : -(2 ^ 63) ≤ x ∧ x < 2 ^ 63) : IntKind.i64.wrap x = x := by
  rw [IntKind.wrap_i64]; omega
theorem z74 {α β : Type} (f : β → α → β) (b : β) (l : List α) (i : Nat) (x : α) (h : l[i]? = some x) : (l.take (i + 1)).foldl f b = f ((l.take i).foldl f b) x := by
  rw [List.take_add_one, h]; simp
theorem z25 {α : Type} {l : List α} {i : Nat} {x : α} (h : l[i]? = some x) : l.drop i = x :: l.drop (i + 1) := by
  obtain ⟨hlt, rfl⟩ := List.getElem?_eq_some_iff.1 h
  exact List.drop_eq_getElem_cons hlt
def idxFrom {α : Type} (q : α → Bool) : List α → Nat → Int
  | [], _ => -1
  | x :: xs, i => if q x then (i : Int) else idxFrom q xs (i + 1)
theorem z53 {α : Type} (q : α → Bool) : ∀ (l : List α) (i : Nat), decide (idxFrom q l i ≥ 0) = l.any q
  | [], i => by simp [idxFrom]
  | x :: xs, i => by
    simp only [idxFrom, List.any_cons]
    by_cases h : q x
    · simp [h]
    · simp [h, ← z53 q xs (i + 1)]
theorem z359 {α : Type} (l : List α) (q : α → Bool) : (!(l.any fun s => !q s)) = l.all q := by
  induction l with
  | nil => rfl
  | cons x xs ih => simp only [List.any_cons, List.all_cons, ← ih]; cases q x <;> simp
theorem z49 (m : List (Option Blk)) (x : AV) (d : DV) (caps : List DV) (h : reify m deep x = some d) : allSome ((x :: caps.map AV.d).map (reify m deep)) = some (d :: caps) := by
  have : ∀ l : List DV, allSome ((l.map AV.d).map (reify m deep)) = some l := by
    intro l
    induction l with
    | nil => rfl
    | cons a l ih =>
      simp only [List.map_cons]
      rw [show reify m deep (AV.d a) = some a from rfl]
      simp only [allSome, ih, Option.map_some]
  simp only [List.map_cons, h, allSome]
  rw [this caps]
  rfl
def getI (l : List Int) (i : Int) : Int := l.getD i.toNat 0
end Go.Ab
namespace Go.Ab
open Go.RowKit Go.Proofs
set_option maxHeartbeats 4000000
set_option maxRecDepth 20000
attribute [local irreducible] WalkL Walk
def withinB (n lo hi : Int) : Bool := decide (lo ≤ n) && decide (n ≤ hi)
def orderedB (s : Span) (lo hi : Int) : Bool := decide (lo ≤ s.lo) && (decide (s.lo ≤ s.hi) && decide (s.hi ≤ hi))
theorem z36 {x lo hi : Int} : withinB x lo hi = true ↔ lo ≤ x ∧ x ≤ hi := by simp [withinB]
def hourB (h : Hour) : Bool := orderedB h.wind 0 200 && (orderedB h.rain 0 100 && orderedB h.temp (-50) 50)
def pointH (s : Sky) : Hour := ⟨⟨s.wind, s.wind⟩, ⟨s.rain, s.rain⟩, ⟨s.temp, s.temp⟩⟩
def insideB (s : Sky) (h : Hour) : Bool := withinB s.wind h.wind.lo h.wind.hi && (withinB s.rain h.rain.lo h.rain.hi && withinB s.temp h.temp.lo h.temp.hi)
end Go.Ab
namespace Go.Ab
open Go.RowKit Go.Proofs
set_option maxHeartbeats 4000000
set_option maxRecDepth 20000
attribute [local irreducible] WalkL Walk
structure ForeSmall (F : List (List Hour)) : Prop where
  scen : F.length < 2 ^ 30
  hours : ∀ l ∈ F, l.length < 2 ^ 30
def scenB (h0 x : List Hour) : Bool := withinB x.length 1 48 && (((x.length : Int) == (h0.length : Int)) && x.all hourB)
def hd0 (F : List (List Hour)) : List Hour := F.headD []
def badF (F : List (List Hour)) : Bool := !withinB F.length 1 6 || !(F.all (scenB (hd0 F)))
def foreF (F : List (List Hour)) : Int := if badF F then 50 else 0
def sightOk (H : Int) (s : Sight) : Bool := withinB s.hour 0 (H - 1) && hourB (pointH s.sky)
def sightsB (H : Int) (l : List Sight) : Bool := l.all (sightOk H) && (decide ((l.map (·.hour)).Nodup) && decide ((l.length : Int) ≤ 20))
def entsFrom : List Sight → Nat → List (MK × DV × Nat)
  | [], _ => []
  | s :: l, j => (.i s.hour, .i 1, j) :: entsFrom l (j + 1)
end Go.Ab
namespace Go.Ab
open Go.RowKit Go.Proofs
set_option maxHeartbeats 4000000
set_option maxRecDepth 20000
attribute [local irreducible] WalkL Walk
def noHour : Hour := ⟨⟨0, 0⟩, ⟨0, 0⟩, ⟨0, 0⟩⟩
def hourAt (l : List Hour) (i : Int) : Hour := l.getD i.toNat noHour
theorem z836 {l : List Hour} {i : Int} (h : 0 ≤ i ∧ i.toNat < l.length) : l[i.toNat]? = some (hourAt l i) := by
  unfold hourAt
  rw [List.getD, List.getElem?_eq_getElem h.2]
  rfl
def seenHours (seen : List Sight) (l : List Hour) : List Hour := seen.foldl (fun l s => l.set s.hour.toNat (pointH s.sky)) l
def agreesB (seen : List Sight) (l : List Hour) : Bool := seen.all fun s => insideB s.sky (hourAt l s.hour)
def possFrom (seen : List Sight) : List (List Hour) → Nat → List (Nat × List Hour)
  | [], _ => []
  | l :: F, j => if agreesB seen l then (j, seenHours seen l) :: possFrom seen F (j + 1) else possFrom seen F (j + 1)
def possL (F : List (List Hour)) (seen : List Sight) : List (Nat × List Hour) := possFrom seen F 0
def numsOf (l : List (Nat × List Hour)) : List Int := l.map fun x => (x.1 : Int)
def scensOf (l : List (Nat × List Hour)) : List (List Hour) := l.map (·.2)
def lookF (F : List (List Hour)) (seen : List Sight) (err : Int) (told : Bool) : Int :=
  if badF F then 50 else if sightsB (hd0 F).length seen then (if err = 0 then (if told then (if (possL F seen).isEmpty then 3 else 0) else 1) else err) else 51
def lookV (F : List (List Hour)) (seen : List Sight) : DV := .ptr [.sl (intRows (numsOf (possL F seen))), .sl (scenRows (scensOf (possL F seen))), .i (hd0 F).length] 0
structure ForeGood (F : List (List Hour)) : Prop where
  scen : 1 ≤ F.length ∧ F.length ≤ 6
  hours : 1 ≤ (hd0 F).length ∧ (hd0 F).length ≤ 48
  len : ∀ l ∈ F, l.length = (hd0 F).length
  hour : ∀ l ∈ F, ∀ h ∈ l, hourB h = true
end Go.Ab
namespace Go.Ab
open Go.RowKit Go.Proofs
set_option maxHeartbeats 4000000
set_option maxRecDepth 20000
attribute [local irreducible] WalkL Walk
def listRows (l : List (List Int)) : List (List DV) := l.map fun x => [.sl (intRows x)]
theorem z20 (l : List (List Int)) : (listRows l).length = l.length := by simp [listRows]
theorem z40 {l : List (List Int)} {i : Nat} {x : List Int} (h : l[i]? = some x) : (listRows l)[i]? = some [.sl (intRows x)] := by simp [listRows, h]
theorem z486 (l : List (List Int)) : headIs 1 (listRows l) = true := by cases l <;> rfl
attribute [go_sem] z20 z486
theorem z1055 (xs : List Int) (g : Nat) (caps : List DV) (q : Int → Bool) (hq : ∀ s ∈ xs, Fn Try.prog g (.i s :: caps) (.bool (q s))) (hl : xs.length < 2 ^ 62) : Fn Try.prog 102 [.sl (intRows xs), .fn g caps] (.i (idxFrom q xs 0)) := by
  refine z18 19 Try.call102 Try.func102 rfl (by decide) fun J => ?_
  simp (maxSteps := 4000000) only [go_sem, St.start, Try.ntmps102, Try.results102]
  repeat (first | refine nx ?_ | (refine z10 fun K hK => ?_; simp (maxSteps := 4000000) only [go_sem]; refine hK _ ?_; clear hK K))
  refine z15 (fun (i : Nat) => [(8, .d (.i i))]) (fun _ => []) (fun i => i ≤ xs.length ∧ idxFrom q xs 0 = idxFrom q (xs.drop i) i) (fun i => xs.length - i) 0 ?_ ⟨Nat.zero_le _, rfl⟩ ?_
  · simp (maxSteps := 4000000) only [go_sem]
    refine z13 [] ?_ ?_ rfl rfl <;> simp [lessT, lessM, lessB, AV.less]
  · intro i ⟨hi, hq0⟩
    simp (maxSteps := 4000000) only [go_sem]
    repeat (first | refine nx ?_ | (refine z10 fun K hK => ?_; simp (maxSteps := 4000000) only [go_sem]; refine hK _ ?_; clear hK K))
    refine z14 rfl (fun hb => ?_) (fun hb => ?_)
    · have hlt : i < xs.length := by simpa using hb
      have hw : IntKind.i64.wrap ((i : Int) + 1) = ((i + 1 : Nat) : Int) := by rw [z16 (by omega)]; simp
      obtain ⟨s, hs⟩ : ∃ s, xs[i]? = some s := ⟨_, List.getElem?_eq_getElem hlt⟩
      rw [z25 hs, idxFrom] at hq0
      repeat (first | refine nx ?_ | (refine z10 fun K hK => ?_; simp (maxSteps := 4000000) only [go_sem]; refine hK _ ?_; clear hK K))
      refine z10 fun K hK => ?_
      simp (maxSteps := 4000000) only [go_sem, hs, List.getElem?_map, z37 hs, hw]
      refine ⟨_, .lent (hf := hq s (List.mem_of_getElem? hs)) (hd := z49 _ _ _ _ rfl) (hr := rfl), ?_⟩
      simp (maxSteps := 4000000) only [go_sem]
      refine hK _ ?_
      clear hK K
      refine z14 rfl (fun hc => ?_) (fun hc => ?_)
      · rw [hc, if_pos rfl] at hq0
        repeat (first | refine nx ?_ | (refine z10 fun K hK => ?_; simp (maxSteps := 4000000) only [go_sem]; refine hK _ ?_; clear hK K))
        simp (maxSteps := 4000000) only [go_sem, hq0]
      · rw [hc] at hq0
        repeat (first | refine nx ?_ | (refine z10 fun K hK => ?_; simp (maxSteps := 4000000) only [go_sem, hw]; refine hK _ ?_; clear hK K))
        refine ⟨rfl, i + 1, ?_, ⟨hlt, hq0⟩, by omega⟩
        refine z13 [] ?_ ?_ rfl rfl <;> simp [lessT, lessM, lessB, AV.less]
    · have he : i = xs.length := by (have : ¬ i < xs.length := by simpa using hb); omega
      subst he
      repeat (first | refine nx ?_ | (refine z10 fun K hK => ?_; simp (maxSteps := 4000000) only [go_sem]; refine hK _ ?_; clear hK K))
      simp (maxSteps := 4000000) only [go_sem, hq0, List.drop_length, idxFrom]
theorem z1123 (xs : List Int) (g : Nat) (caps : List DV) (q : Int → Bool) (hq : ∀ s ∈ xs, Fn Try.prog g (.i s :: caps) (.bool (q s))) (hl : xs.length < 2 ^ 62) : Fn Try.prog 87 [.sl (intRows xs), .fn g caps] (.bool (xs.any q)) := by
  refine z18 9 Try.call87 Try.func87 rfl (by decide) fun J => ?_
  simp (maxSteps := 4000000) only [go_sem, St.start, Try.ntmps87, Try.results87]
  repeat (first | refine nx ?_ | (refine z10 fun K hK => ?_; simp (maxSteps := 4000000) only [go_sem]; (repeat (first | (refine ⟨_, .lent (hf := z1055 xs g caps q hq hl) (hd := rfl) (hr := rfl), ?_⟩; simp (maxSteps := 4000000) only [go_sem]) | (refine ⟨_, .given (hf := z1055 xs g caps q hq hl) (hd := rfl) (ha := rfl), ?_⟩; simp (maxSteps := 4000000) only [go_sem]))); refine hK _ ?_; clear hK K))
  simp (maxSteps := 4000000) only [go_sem, z53]
structure Grid where
  p : Plant
  scen : List (List Hour)
  hours : Int
def Grid.cells (g : Grid) : List DV := [.sl (scenRows g.p.scen), .sl (sightRows g.p.seen), .sl (intRows g.p.sun), .i g.p.gain, .i g.p.start, .i g.p.stop, .i g.p.charge, .i g.p.capacity, .i g.p.reserve, .i g.p.gas, .i g.p.rate, .i g.p.units, .sl (intRows g.p.needs), .sl (scenRows g.scen), .i g.hours]
def powerB (H : Int) (l : List Int) : Bool := ((l.length : Int) == H) && !(l.any fun n => !withinB n 0 10000)
def sumI (l : List Int) : Int := l.foldl (· + ·) 0
def burnB (g : Grid) (l : List Int) : Bool := (l.all fun n => withinB n 0 g.p.rate) && (((l.length : Int) == g.hours) && decide (sumI l ≤ g.p.units))
end Go.Ab
namespace Go.Ab
open Go.RowKit Go.Proofs
set_option maxHeartbeats 8000000
set_option maxRecDepth 20000
attribute [local irreducible] WalkL Walk
structure PlantSmall (p : Plant) : Prop where
  fore : ForeSmall p.scen
  seen : p.seen.length < 2 ^ 30
  sun : p.sun.length < 2 ^ 30
  needs : p.needs.length < 2 ^ 30
def hoursOf (p : Plant) : Int := (hd0 p.scen).length
def gridOf (p : Plant) : Grid := ⟨p, scensOf (possL p.scen p.seen), hoursOf p⟩
def plantBad (p : Plant) (H : Int) : Bool :=
  !powerB H p.sun || (!powerB H p.needs || (!withinB p.gain 0 100 || (!withinB p.start 0 p.stop || (decide (p.stop > 200) ||
  (!withinB p.capacity 0 100000 || (!withinB p.charge 0 p.capacity || (!withinB p.reserve 0 p.capacity ||
  (!withinB p.gas 0 10000 || (!withinB p.rate 0 10 || !withinB p.units 0 200)))))))))
def openE (p : Plant) (burns : List (List Int)) : Int :=
  if lookF p.scen p.seen 0 true = 0 then (if plantBad p (hoursOf p) then 100 else if burns.any (fun l => !burnB (gridOf p) l) then 101 else 0) else lookF p.scen p.seen 0 true
end Go.Ab
namespace Go.Ab
open Go.RowKit Go.Proofs
set_option maxHeartbeats 8000000
set_option maxRecDepth 20000
attribute [local irreducible] WalkL Walk
def yieldW (p : Plant) (h : Int) (s : Sky) : Int :=
  if withinB s.wind p.start p.stop then wr (wr ((wr (getI p.sun h * wr (100 - s.rain))).tdiv 100) + wr (p.gain * s.wind)) else wr ((wr (getI p.sun h * wr (100 - s.rain))).tdiv 100)
def worstW (p : Plant) (h : Hour) : Sky := ⟨if decide (h.wind.lo ≥ p.start) && decide (h.wind.hi > p.stop) then h.wind.hi else h.wind.lo, h.rain.hi, h.temp.lo⟩
def bestW (p : Plant) (h : Hour) : Sky := ⟨if decide (p.stop < h.wind.hi) && decide (p.stop ≥ h.wind.lo) then p.stop else h.wind.hi, h.rain.lo, h.temp.lo⟩
def leastW (p : Plant) (l : List Hour) : List Sky := l.map (worstW p)
def noSky : Sky := ⟨0, 0, 0⟩
def skyAt (l : List Sky) (i : Nat) : Sky := l.getD i noSky
theorem z877 {l : List Sky} {i : Nat} (h : i < l.length) : l[i]? = some (skyAt l i) := by
  unfold skyAt
  rw [List.getD, List.getElem?_eq_getElem h]
  rfl
def allOf (p : Plant) (burn : List Int) (skies : List Sky) (lv : Int) (j : Nat) : Int :=
  wr (wr (wr (lv + yieldW p j (skyAt skies j)) + wr (p.gas * getI burn j)) - getI p.needs j)
def lvAt (p : Plant) (burn : List Int) (skies : List Sky) : Nat → Int
  | 0 => p.charge
  | j + 1 => min (allOf p burn skies (lvAt p burn skies j) j) p.capacity
def lostAt (p : Plant) (burn : List Int) (skies : List Sky) (j : Nat) : Int := wr (allOf p burn skies (lvAt p burn skies j) j - lvAt p burn skies (j + 1))
def levItems (p : Plant) (burn : List Int) (skies : List Sky) : List (List DV) := (List.range skies.length).map fun j => [.i (lvAt p burn skies (j + 1)), .i (lostAt p burn skies j)]
end Go.Ab
namespace Go.Ab
open Go.RowKit Go.Proofs
set_option maxHeartbeats 8000000
set_option maxRecDepth 20000
attribute [local irreducible] WalkL Walk
def countTo (q : Nat → Bool) : Nat → Nat → Nat
  | 0, i => i
  | k + 1, i => if q i then countTo q k (i + 1) else i
def lastsW (p : Plant) (burn : List Int) (skies : List Sky) : Nat := countTo (fun j => !decide (lvAt p burn skies (j + 1) < p.reserve)) skies.length 0
structure GridOk (g : Grid) (H : Nat) : Prop where
  hours : g.hours = H
  pos : 1 ≤ H ∧ H ≤ 48
  sun : g.p.sun.length = H
  needs : g.p.needs.length = H
  scen : g.scen ≠ [] ∧ g.scen.length < 2 ^ 20
  len : ∀ l ∈ g.scen, l.length = H
  rate : 0 ≤ g.p.rate ∧ g.p.rate ≤ 10
  units : 0 ≤ g.p.units ∧ g.p.units ≤ 200
def hardStep (p : Plant) (burn : List Int) (a : List Sky × Int) (l : List Hour) : List Sky × Int :=
  if (lastsW p burn (leastW p l) : Int) < a.2 then (leastW p l, (lastsW p burn (leastW p l) : Int)) else a
def hardF (g : Grid) (burn : List Int) : List Sky × Int := g.scen.foldl (hardStep g.p burn) ([], g.hours + 1)
end Go.Ab
namespace Go.Ab
open Go.RowKit Go.Proofs
set_option maxHeartbeats 8000000
set_option maxRecDepth 20000
attribute [local irreducible] WalkL Walk
theorem z43 (l : List Int) (k : Nat) (x : Int) : (intRows l).set k [.i x] = intRows (l.set k x) := by simp [intRows, List.map_set]
def downF (r : Int) (burn : List Int) : Nat → Int
  | 0 => -1
  | k + 1 => if getI burn k = r then downF r burn k else k
def planF (g : Grid) : Nat → List Int → Int → Option (List Int × Int)
  | 0, _, _ => none
  | f + 1, burn, units =>
    if (hardF g burn).2 = g.hours then some (burn, units) else
    if downF g.p.rate burn ((hardF g burn).2.toNat + 1) < 0 ∨ units = g.p.units then none else
    planF g f (burn.set (downF g.p.rate burn ((hardF g burn).2.toNat + 1)).toNat (getI burn (downF g.p.rate burn ((hardF g burn).2.toNat + 1)) + 1)) (units + 1)
def planG (g : Grid) : Option (List Int × Int) := planF g (g.p.units.toNat + 1) (List.replicate g.hours.toNat 0) 0
def planV : Option (List Int × Int) → DV
  | some (b, u) => .tup [.sl (intRows b), .i u, .bool true]
  | none => .tup [.sl [], .i 0, .bool false]
def planP (p : Plant) : List Int × Int × Int :=
  if openE p [] = 0 then (match planG (gridOf p) with
    | some (b, u) => (b, u, 0)
    | none => ([], 0, 3)) else ([], 0, openE p [])
end Go.Ab
namespace Go.Ab
open Go.RowKit Go.Proofs
set_option maxHeartbeats 8000000
set_option maxRecDepth 20000
attribute [local irreducible] WalkL Walk
def seenF (F : List (List Hour)) (seen : List Sight) : Int := if badF F then 50 else if sightsB (hd0 F).length seen then 0 else 51
end Go.Ab
namespace Go.Ab
open Go.RowKit Go.Proofs
set_option maxHeartbeats 8000000
set_option maxRecDepth 20000
attribute [local irreducible] WalkL Walk
def plantE (p : Plant) : Int := if lookF p.scen p.seen 0 true = 0 then (if plantBad p (hoursOf p) then 100 else 0) else lookF p.scen p.seen 0 true
end Go.Ab
namespace Go.Ab
open Go.RowKit Go.Proofs
set_option maxHeartbeats 8000000
set_option maxRecDepth 20000
attribute [local irreducible] WalkL Walk
def eqAll : List Hour → List Sky → Bool
  | [], [] => true
  | h :: l, s :: m => insideB s h && eqAll l m
  | _, _ => false
def weatherB (g : Grid) (m : List Sky) : Bool := g.scen.any fun l => eqAll l m
def levsTo (p : Plant) (burn : List Int) (skies : List Sky) (k : Nat) : List Int := (List.range k).map fun j => lvAt p burn skies (j + 1)
def lostTo (p : Plant) (burn : List Int) (skies : List Sky) : Nat → Int
  | 0 => 0
  | k + 1 => wr (lostTo p burn skies k + lostAt p burn skies k)
def levelsE (p : Plant) (burn : List Int) (m : List Sky) : Int := if openE p [burn] = 0 then (if weatherB (gridOf p) m then 0 else 102) else openE p [burn]
def levelsP (p : Plant) (burn : List Int) (m : List Sky) : List Int × Int × Int :=
  if levelsE p burn m = 0 then (levsTo p burn m m.length, lostTo p burn m m.length, 0) else ([], 0, levelsE p burn m)
def lastsP (p : Plant) (burn : List Int) : Int × Int := if openE p [burn] = 0 then ((hardF (gridOf p) burn).2, 0) else (0, openE p [burn])
def worstP (p : Plant) (burn : List Int) : List Sky × Int :=
  if openE p [burn] = 0 then (if (hardF (gridOf p) burn).2 = (gridOf p).hours then ([], 3) else ((hardF (gridOf p) burn).1, 0)) else ([], openE p [burn])
end Go.Ab
namespace Go.Ab
open Go.RowKit Go.Proofs
set_option maxHeartbeats 8000000
set_option maxRecDepth 40000
attribute [local irreducible] WalkL Walk
def exH (lo hi : Int) : Hour := ⟨⟨lo, hi⟩, ⟨0, 0⟩, ⟨0, 10⟩⟩
def exF : List (List Hour) := [[exH 10 20, exH 10 20, exH 10 20, exH 10 20, exH 30 60, exH 30 60], [exH 15 45, exH 15 45, exH 10 20, exH 10 20, exH 10 20, exH 10 20]]
def exP : Plant := ⟨exF, [], [0, 40, 80, 80, 40, 0], 1, 12, 50, 100, 150, 20, 50, 2, 9, [60, 60, 60, 60, 90, 90]⟩
end Go.Ab
namespace Go.Ab
open Go.RowKit Go.Proofs
set_option maxHeartbeats 8000000
set_option maxRecDepth 20000
attribute [local irreducible] WalkL Walk
def farL (F : List (List Hour)) : Bool := F.any fun l => decide ((l.length : Int) > 50)
def far5 (F : List (List Hour)) (seen : List Sight) : Bool :=
  (decide ((F.length : Int) > 8) || decide ((seen.length : Int) > 22)) || (farL F || (decide (foreF F = 0) && (decide ((F.length : Int) > 4) || decide (((hd0 F).length : Int) > 12))))
def far10 (p : Plant) : Bool :=
  (far5 p.scen p.seen || (decide ((p.sun.length : Int) > 100) || decide ((p.needs.length : Int) > 100))) ||
  (decide (plantE p = 0) && (decide ((p.sun.length : Int) > 5) || (decide ((p.scen.length : Int) > 3) || decide (p.rate > 2))))
def validB (p : Plant) : Bool := !far10 p && decide (plantE p = 0)
def isBurnB (p : Plant) (l : List Int) : Bool := (l.all fun n => withinB n 0 p.rate) && (((l.length : Int) == p.sun.length) && decide (sumI l ≤ p.units))
end Go.Ab
namespace Go.Ab
open Go.RowKit Go.Proofs
set_option maxHeartbeats 8000000
set_option maxRecDepth 20000
attribute [local irreducible] WalkL Walk
def skyB (s t : Sky) : Bool := (s.wind == t.wind) && ((s.rain == t.rain) && (s.temp == t.temp))
def inAt (l : List Hour) (m : List Sky) (j : Nat) : Bool := insideB (skyAt m j) (hourAt l (j : Int))
def inTo (l : List Hour) (m : List Sky) : Nat → Bool
  | 0 => true
  | k + 1 => inTo l m k && inAt l m k
def seenEq (seen : List Sight) (m : List Sky) : Bool := seen.all fun s => skyB (skyAt m s.hour.toNat) s.sky
def scenAt (F : List (List Hour)) (k : Int) : List Hour := F.getD k.toNat []
def weB (F : List (List Hour)) (seen : List Sight) (m : List Sky) : Bool :=
  ((m.length : Int) == (hd0 F).length) && (seenEq seen m && (numsOf (possL F seen)).any fun k => inTo (scenAt F k) m m.length)
end Go.Ab
namespace Go.Ab
open Go.RowKit Go.Proofs
set_option maxHeartbeats 8000000
set_option maxRecDepth 20000
attribute [local irreducible] WalkL Walk
end Go.Ab
namespace Go.Ab
open Go.RowKit Go.Proofs
set_option maxHeartbeats 4000000
set_option maxRecDepth 20000
structure PlantGood (p : Plant) : Prop where
  fore : ForeGood p.scen
  sights : sightsB (hd0 p.scen).length p.seen = true
  poss : possL p.scen p.seen ≠ []
  sun : p.sun.length = (hd0 p.scen).length
  needs : p.needs.length = (hd0 p.scen).length
  sunIn : ∀ x ∈ p.sun, 0 ≤ x ∧ x ≤ 10000
  needsIn : ∀ x ∈ p.needs, 0 ≤ x ∧ x ≤ 20000
  gain : 0 ≤ p.gain ∧ p.gain ≤ 100
  start : 0 ≤ p.start ∧ p.start ≤ p.stop ∧ p.stop ≤ 200
  capacity : 0 ≤ p.capacity ∧ p.capacity ≤ 100000
  charge : 0 ≤ p.charge ∧ p.charge ≤ p.capacity
  reserve : 0 ≤ p.reserve ∧ p.reserve ≤ p.capacity
  gas : 0 ≤ p.gas ∧ p.gas ≤ 10000
  rate : 0 ≤ p.rate ∧ p.rate ≤ 10
  units : 0 ≤ p.units ∧ p.units ≤ 200
def SkyOk (s : Sky) : Prop := (0 ≤ s.wind ∧ s.wind ≤ 200) ∧ (0 ≤ s.rain ∧ s.rain ≤ 100)
def yieldI (p : Plant) (h : Int) (s : Sky) : Int := (getI p.sun h * (100 - s.rain)) / 100 + if withinB s.wind p.start p.stop then p.gain * s.wind else 0
theorem z80 {l : List Int} {a b : Int} (h : ∀ x ∈ l, a ≤ x ∧ x ≤ b) (ha : a ≤ 0 ∧ 0 ≤ b) (i : Int) : a ≤ getI l i ∧ getI l i ≤ b := by
  unfold getI
  rw [List.getD_eq_getElem?_getD]
  cases hx : l[i.toNat]? with
  | none => exact ha
  | some x => exact h x (List.mem_of_getElem? hx)
end Go.Ab
namespace Go.Ab
open Go.RowKit Go.Proofs
set_option maxHeartbeats 4000000
set_option maxRecDepth 20000
def levI (c cap : Int) (net : Nat → Int) : Nat → Int
  | 0 => c
  | k + 1 => min (levI c cap net k + net k) cap
def pre (b : Nat → Int) : Nat → Int
  | 0 => 0
  | k + 1 => pre b k + b k
def LastsAll (p : Plant) (burn : List Int) : Prop := ∀ l ∈ (gridOf p).scen, ∀ j < p.sun.length, p.reserve ≤ lvAt p burn (leastW p l) (j + 1)
def preB (b : List Int) (k : Nat) : Int := pre (fun j => getI b j) k
structure Step (p : Plant) (b : List Int) (u : Int) : Prop where
  len : b.length = p.sun.length
  rng : ∀ x ∈ b, 0 ≤ x ∧ x ≤ p.rate
  sum : sumI b = u
  top : u ≤ p.units
  zero : ∀ j : Nat, getI b (j : Int) ≠ 0 → (j : Int) ≤ (hardF (gridOf p) b).2
  late : ∀ c, isBurnB p c = true → LastsAll p c → ∀ j ≤ p.sun.length, preB b j ≤ preB c j
end Go.Ab
namespace Go.Ab
open Go.RowKit Go.Proofs
set_option maxHeartbeats 4000000
set_option maxRecDepth 20000
attribute [local irreducible] WalkL Walk
structure Limits where
  wind : Int
  rain : Int
  temp : Span
def Limits.row (l : Limits) : List DV := [.i l.wind, .i l.rain, .i l.temp.lo, .i l.temp.hi]
def limB (l : Limits) : Bool := withinB l.wind 0 200 && (withinB l.rain 0 100 && orderedB l.temp (-50) 50)
def limE (l : Limits) : Int := if limB l then 0 else 52
def keptB (s : Sky) (l : Limits) : Bool := decide (s.wind ≤ l.wind) && (decide (s.rain ≤ l.rain) && withinB s.temp l.temp.lo l.temp.hi)
def alwaysB (l : Limits) (h : Hour) : Bool := decide (h.wind.hi ≤ l.wind) && (decide (h.rain.hi ≤ l.rain) && (decide (l.temp.lo ≤ h.temp.lo) && decide (h.temp.hi ≤ l.temp.hi)))
def everB (l : Limits) (h : Hour) : Bool := decide (h.wind.lo ≤ l.wind) && (decide (h.rain.lo ≤ l.rain) && decide (max l.temp.lo h.temp.lo ≤ min l.temp.hi h.temp.hi))
def hullS (a b : Span) : Span := ⟨min a.lo b.lo, max a.hi b.hi⟩
end Go.Ab
namespace Go.Ab
open Go.RowKit Go.Proofs
set_option maxHeartbeats 4000000
set_option maxRecDepth 20000
attribute [local irreducible] WalkL Walk
def hullH (a b : Hour) : Hour := ⟨hullS a.wind b.wind, hullS a.rain b.rain, hullS a.temp b.temp⟩
def hullAll (S : List (List Hour)) (h : Int) : Hour := S.foldl (fun o l => hullH o (hourAt l h)) (hourAt (hd0 S) h)
def rangeF (F : List (List Hour)) (seen : List Sight) (h : Int) : Hour × Int :=
  if lookF F seen 0 (withinB h 0 ((hd0 F).length - 1)) = 0 then (hullAll (scensOf (possL F seen)) h, 0) else (noHour, lookF F seen 0 (withinB h 0 ((hd0 F).length - 1)))
def atF (seen : List Sight) (l : List Hour) (h : Int) : Hour := match seen.find? (fun s => s.hour == h) with
  | some s => pointH s.sky
  | none => hourAt l h
end Go.Ab
namespace Go.Ab
open Go.RowKit Go.Proofs
set_option maxHeartbeats 4000000
set_option maxRecDepth 20000
attribute [local irreducible] WalkL Walk
def boolRows (l : List Bool) : List (List DV) := l.map fun x => [.bool x]
theorem z620 (l : List Bool) : (boolRows l).length = l.length := by simp [boolRows]
theorem z500 (l : List Bool) : headIs 1 (boolRows l) = true := by cases l <;> rfl
def spanRows (l : List Span) : List (List DV) := l.map Span.row
theorem z539 (l : List Span) : (spanRows l).length = l.length := by simp [spanRows]
theorem z468 (l : List Span) : headIs 2 (spanRows l) = true := by cases l <;> rfl
attribute [go_sem] z620 z500 z539 z468
def beginsFrom (n : Int) : List Bool → Nat → Int → Int
  | [], _, _ => -1
  | b :: l, i, run => if (if b then run + 1 else 0) = n then (i : Int) + 1 - n else beginsFrom n l (i + 1) (if b then run + 1 else 0)
def beginsF (l : List Bool) (n : Int) : Int := beginsFrom n l 0 0
def addSpan (l : List Span) (i : Int) : List Span := match l.getLast? with
  | some s => if s.hi == i - 1 then l.dropLast ++ [⟨s.lo, i⟩] else l ++ [⟨i, i⟩]
  | none => [⟨i, i⟩]
def spansQ (q : Nat → Bool) : Nat → List Span
  | 0 => []
  | n + 1 => if q n then addSpan (spansQ q n) (n : Int) else spansQ q n
end Go.Ab
namespace Go.Ab
open Go.RowKit Go.Proofs
set_option maxHeartbeats 4000000
set_option maxRecDepth 20000
attribute [local irreducible] WalkL Walk
def outV (N : List Int) (S : List (List Hour)) (H : Nat) : DV := .ptr [.sl (intRows N), .sl (scenRows S), .i H] 0
def keepsF (F : List (List Hour)) (seen : List Sight) (l : Limits) : List Span × List Span × Int :=
  if lookF F seen (limE l) true = 0 then (spansQ (fun i => (scensOf (possL F seen)).all fun s => alwaysB l (hourAt s (i : Int))) (hd0 F).length, spansQ (fun i => (scensOf (possL F seen)).any fun s => everB l (hourAt s (i : Int))) (hd0 F).length, 0) else ([], [], lookF F seen (limE l) true)
end Go.Ab
namespace Go.Ab
open Go.RowKit Go.Proofs
set_option maxHeartbeats 8000000
set_option maxRecDepth 20000
attribute [local irreducible] WalkL Walk
def winFirst (l : Limits) (n : Int) (S : List (List Hour)) (H : Int) : Int := S.foldl (fun f s => if decide (beginsF (s.map (everB l)) n ≥ 0) then min f (beginsF (s.map (everB l)) n) else f) H
def winLast (l : Limits) (n : Int) (S : List (List Hour)) : Int := S.foldl (fun a s => max a (beginsF (s.map (alwaysB l)) n)) (-1)
def winNever (l : Limits) (n : Int) (S : List (List Hour)) : Bool := S.any fun s => decide (beginsF (s.map (alwaysB l)) n < 0)
def windowF (F : List (List Hour)) (seen : List Sight) (l : Limits) (n : Int) : Int × Int × Int :=
  if lookF F seen (limE l) (withinB n 1 48) = 0 then
    (if winFirst l n (scensOf (possL F seen)) (hd0 F).length = (hd0 F).length then -1 else winFirst l n (scensOf (possL F seen)) (hd0 F).length, if winNever l n (scensOf (possL F seen)) then -1 else winLast l n (scensOf (possL F seen)), 0)
  else (0, 0, lookF F seen (limE l) (withinB n 1 48))
def gapAt (b : List Bool) (n : Int) (k : Nat) : Int := if decide (beginsF (b.drop k) n ≥ 0) then beginsF (b.drop k) n + n - 1 else (b.length : Int) - k
def gapTo (b : List Bool) (n : Int) : Nat → Int → Int
  | 0, g => g
  | k + 1, g => max (gapTo b n k g) (gapAt b n k)
def gapS (l : Limits) (n : Int) (S : List (List Hour)) : Int := S.foldl (fun g s => gapTo (s.map (alwaysB l)) n s.length g) 0
def gapF (F : List (List Hour)) (seen : List Sight) (l : Limits) (n : Int) : Int × Int :=
  if lookF F seen (limE l) (withinB n 1 48) = 0 then (gapS l n (scensOf (possL F seen)), 0) else (0, lookF F seen (limE l) (withinB n 1 48))
end Go.Ab
namespace Go.Ab
open Go.RowKit Go.Proofs
set_option maxHeartbeats 8000000
set_option maxRecDepth 20000
attribute [local irreducible] WalkL Walk
def inSpans (l : List Span) (n : Int) : Bool := l.any fun s => withinB n s.lo s.hi
end Go.Ab
namespace Go.Ab
open Go.RowKit Go.Proofs
set_option maxHeartbeats 8000000
set_option maxRecDepth 20000
attribute [local irreducible] WalkL Walk
end Go.Ab
namespace Go.Ab
open Go.RowKit Go.Proofs
set_option maxHeartbeats 4000000
set_option maxRecDepth 20000
structure RealX where
  seen : List Sight
  skies : List Sky
  lim : Limits
  len : Int
def RealX.cells (x : RealX) : List DV := [.sl (sightRows x.seen), .sl (skyRows x.skies), .i x.lim.wind, .i x.lim.rain, .i x.lim.temp.lo, .i x.lim.temp.hi, .i x.len]
structure EaseX where
  sight : Sight
  wind : Int
  rain : Int
  temp : Int
  less : Int
def EaseX.cells (y : EaseX) : List DV := [.i y.sight.hour, .i y.sight.sky.wind, .i y.sight.sky.rain, .i y.sight.sky.temp, .i y.wind, .i y.rain, .i y.temp, .i y.less]
theorem z335 {s : Sky} {h : Hour} : insideB s h = true ↔ (h.wind.lo ≤ s.wind ∧ s.wind ≤ h.wind.hi) ∧ (h.rain.lo ≤ s.rain ∧ s.rain ≤ h.rain.hi) ∧ (h.temp.lo ≤ s.temp ∧ s.temp ≤ h.temp.hi) := by
  simp [insideB, withinB]
theorem z749 {s : Sky} {l : Limits} : keptB s l = true ↔ s.wind ≤ l.wind ∧ s.rain ≤ l.rain ∧ l.temp.lo ≤ s.temp ∧ s.temp ≤ l.temp.hi := by simp [keptB, withinB]
theorem z852 {l : Limits} {h : Hour} : alwaysB l h = true ↔ h.wind.hi ≤ l.wind ∧ h.rain.hi ≤ l.rain ∧ l.temp.lo ≤ h.temp.lo ∧ h.temp.hi ≤ l.temp.hi := by simp [alwaysB]
theorem z995 {l : Limits} {h : Hour} : everB l h = true ↔ h.wind.lo ≤ l.wind ∧ h.rain.lo ≤ l.rain ∧ max l.temp.lo h.temp.lo ≤ min l.temp.hi h.temp.hi := by simp [everB]
theorem z736 {x : Sky} {l : Limits} {h : Hour} (hi : insideB x h = true) (ha : alwaysB l h = true) : keptB x l = true := by
  rw [z335] at hi
  rw [z852] at ha
  rw [z749]
  omega
theorem z912 {x : Sky} {l : Limits} {h : Hour} (hi : insideB x h = true) (hk : keptB x l = true) : everB l h = true := by
  rw [z335] at hi
  rw [z749] at hk
  rw [z995]
  omega
def IsBegin (l : List Bool) (n h : Nat) : Prop := ∀ k, h ≤ k → k < h + n → l[k]? = some true
theorem z210 {n : Nat} (hn : 1 ≤ n) (L : List Bool) : ∀ (b : List Bool) (i run : Nat), L.drop i = b → run < n → run ≤ i → (∀ k, i - run ≤ k → k < i → L[k]? = some true) → (run < i → L[i - run - 1]? = some false) → (∀ h, h + n ≤ i → ¬ IsBegin L n h) →
    (beginsFrom (n : Int) b i run = -1 ∧ ∀ h, ¬ IsBegin L n h) ∨ ∃ r : Nat, beginsFrom (n : Int) b i run = r ∧ IsBegin L n r ∧ ∀ h < r, ¬ IsBegin L n h
  | [], i, run, hd, h1, h2, h3, h4, h5 => by
    refine .inl ⟨rfl, fun h hb => ?_⟩
    have hl : L.length ≤ i := by
      have := congrArg List.length hd
      simp at this
      omega
    have := hb (h + n - 1) (by omega) (by omega)
    have : h + n - 1 < L.length := (List.getElem?_eq_some_iff.1 this).1
    exact h5 h (by omega) hb
  | x :: b, i, run, hd, h1, h2, h3, h4, h5 => by
    have hx : L[i]? = some x := by
      have := congrArg (·[0]?) hd
      simpa using this
    have hd' : L.drop (i + 1) = b := by
      have := congrArg List.tail hd
      simpa using this
    rw [beginsFrom]
    cases x
    · simp only [Bool.false_eq_true, if_false]
      rw [if_neg (by omega)]
      refine z210 hn L b (i + 1) 0 hd' (by omega) (by omega) (fun k _ _ => by omega) (fun _ => by simpa using hx) ?_
      intro h hh hb
      by_cases hc : h + n ≤ i
      · exact h5 h hc hb
      · have := hb i (by omega) (by omega)
        rw [hx] at this
        cases this
    · simp only [if_true]
      by_cases he : (run : Int) + 1 = n
      · rw [if_pos he]
        refine .inr ⟨i - run, by omega, fun k hk1 hk2 => ?_, fun h hh => h5 h (by omega)⟩
        by_cases hk : k = i
        · rw [hk]; exact hx
        · exact h3 k hk1 (by omega)
      · rw [if_neg he]
        have := z210 hn L b (i + 1) (run + 1) hd' (by omega) (by omega) (fun k hk1 hk2 => by
          by_cases hk : k = i
          · rw [hk]; exact hx
          · exact h3 k (by omega) (by omega)) (fun hlt => by
            have := h4 (by omega)
            rw [show i + 1 - (run + 1) - 1 = i - run - 1 by omega]
            exact this) ?_
        · simpa using this
        · intro h hh hb
          by_cases hc : h + n ≤ i
          · exact h5 h hc hb
          · by_cases hr : run < i
            · have e := hb (i - run - 1) (by omega) (by omega)
              rw [h4 hr] at e
              cases e
            · omega
theorem z354 {n : Nat} (hn : 1 ≤ n) (l : List Bool) : (beginsF l n = -1 ∧ ∀ h, ¬ IsBegin l n h) ∨ ∃ r : Nat, beginsF l n = r ∧ IsBegin l n r ∧ ∀ h < r, ¬ IsBegin l n h := by
  have := z210 hn l l 0 0 rfl (by omega) (by omega) (fun k _ h => by omega) (fun h => by omega) (fun h hh => by omega)
  exact this
theorem z939 {n : Nat} (hn : 1 ≤ n) {l : List Bool} {h : Nat} (hb : IsBegin l n h) : 0 ≤ beginsF l n ∧ beginsF l n ≤ h := by
  rcases z354 hn l with ⟨_, h2⟩ | ⟨r, h1, h2, h3⟩
  · exact absurd hb (h2 h)
  · rw [h1]
    refine ⟨by omega, ?_⟩
    by_cases hc : h < r
    · exact absurd hb (h3 h hc)
    · omega
theorem z623 {n : Nat} (hn : 1 ≤ n) {l : List Bool} (h : 0 ≤ beginsF l n) : IsBegin l n (beginsF l n).toNat := by
  rcases z354 hn l with ⟨h1, _⟩ | ⟨r, h1, h2, h3⟩
  · omega
  · rw [h1]; simpa using h2
theorem z424 {n : Nat} (hn : 1 ≤ n) {l : List Bool} (h : 0 ≤ beginsF l n) : beginsF l n + n ≤ l.length := by
  have := z623 hn h ((beginsF l n).toNat + n - 1) (by omega) (by omega)
  have := (List.getElem?_eq_some_iff.1 this).1
  omega
def LeB (A B : List Bool) : Prop := ∀ k : Nat, A[k]? = some true → B[k]? = some true
theorem LeB.drop {A B : List Bool} (h : LeB A B) (k : Nat) : LeB (A.drop k) (B.drop k) := fun i hi => by
  rw [List.getElem?_drop] at hi ⊢
  exact h _ hi
theorem z150 {n : Nat} (hn : 1 ≤ n) {A B : List Bool} (h : LeB A B) (hA : 0 ≤ beginsF A n) : 0 ≤ beginsF B n ∧ beginsF B n ≤ beginsF A n := by
  have := z939 hn (l := B) (h := (beginsF A n).toNat) (fun k h1 h2 => h k (z623 hn hA k h1 h2))
  omega
theorem z842 {n : Nat} (hn : 1 ≤ n) {A B : List Bool} (h : LeB A B) (hl : A.length = B.length) {k : Nat} (hk : k ≤ A.length) : gapAt B n k ≤ gapAt A n k := by
  unfold gapAt
  by_cases hA : 0 ≤ beginsF (A.drop k) n
  · have := z150 hn (h.drop k) hA
    rw [if_pos (show decide (beginsF (A.drop k) n ≥ 0) = true by simpa using hA), if_pos (show decide (beginsF (B.drop k) n ≥ 0) = true by simpa using this.1)]
    omega
  · rw [if_neg (show ¬ decide (beginsF (A.drop k) n ≥ 0) = true by simpa using hA)]
    by_cases hB : 0 ≤ beginsF (B.drop k) n
    · have := z424 hn hB
      rw [List.length_drop] at this
      rw [if_pos (show decide (beginsF (B.drop k) n ≥ 0) = true by simpa using hB)]
      omega
    · rw [if_neg (show ¬ decide (beginsF (B.drop k) n ≥ 0) = true by simpa using hB)]
      omega
theorem z755 {b : List Bool} {n : Int} {G : Int} : ∀ (k : Nat) (g : Int), gapTo b n k g ≤ G ↔ g ≤ G ∧ ∀ j < k, gapAt b n j ≤ G
  | 0, g => by simp [gapTo]
  | k + 1, g => by
    rw [gapTo, Int.max_le, z755 k g]
    constructor
    · rintro ⟨⟨h1, h2⟩, h3⟩
      refine ⟨h1, fun j hj => ?_⟩
      rcases Nat.lt_succ_iff_lt_or_eq.1 hj with h | rfl
      · exact h2 j h
      · exact h3
    · rintro ⟨h1, h2⟩
      exact ⟨⟨h1, fun j hj => h2 j (by omega)⟩, h2 k (by omega)⟩
theorem z603 {l : Limits} {n : Int} {G : Int} : ∀ (S : List (List Hour)) (g : Int), S.foldl (fun g s => gapTo (s.map (alwaysB l)) n s.length g) g ≤ G ↔ g ≤ G ∧ ∀ s ∈ S, ∀ j < s.length, gapAt (s.map (alwaysB l)) n j ≤ G
  | [], g => by simp
  | s :: S, g => by
    rw [List.foldl_cons, z603 S, z755]
    simp only [List.mem_cons, forall_eq_or_imp, and_assoc]
theorem z1030 {l : Limits} {n : Int} {G : Int} {S : List (List Hour)} : gapS l n S ≤ G ↔ 0 ≤ G ∧ ∀ s ∈ S, ∀ j < s.length, gapAt (s.map (alwaysB l)) n j ≤ G := z603 S 0
theorem z192 {l : Limits} {n G : Int} : ∀ (S : List (List Hour)) (H : Int), G ≤ winFirst l n S H ↔ G ≤ H ∧ ∀ s ∈ S, 0 ≤ beginsF (s.map (everB l)) n → G ≤ beginsF (s.map (everB l)) n
  | [], H => by simp [winFirst]
  | s :: S, H => by
    have ih := z192 (l := l) (n := n) (G := G) S
    unfold winFirst at ih ⊢
    rw [List.foldl_cons, ih]
    simp only [List.mem_cons, forall_eq_or_imp]
    by_cases h : 0 ≤ beginsF (s.map (everB l)) n
    · rw [if_pos (by simpa using h), Int.le_min]
      constructor
      · rintro ⟨⟨h1, h2⟩, h3⟩; exact ⟨h1, fun _ => h2, h3⟩
      · rintro ⟨h1, h2, h3⟩; exact ⟨⟨h1, h2 h⟩, h3⟩
    · rw [if_neg (by simpa using h)]
      constructor
      · rintro ⟨h1, h3⟩; exact ⟨h1, fun hc => absurd hc h, h3⟩
      · rintro ⟨h1, _, h3⟩; exact ⟨h1, h3⟩
theorem z272 {l : Limits} {n G : Int} : ∀ (S : List (List Hour)) (a : Int), S.foldl (fun a s => max a (beginsF (s.map (alwaysB l)) n)) a ≤ G ↔ a ≤ G ∧ ∀ s ∈ S, beginsF (s.map (alwaysB l)) n ≤ G
  | [], a => by simp
  | s :: S, a => by
    rw [List.foldl_cons, z272 S, Int.max_le]
    simp only [List.mem_cons, forall_eq_or_imp, and_assoc]
theorem z768 {l : Limits} {n G : Int} {S : List (List Hour)} : winLast l n S ≤ G ↔ -1 ≤ G ∧ ∀ s ∈ S, beginsF (s.map (alwaysB l)) n ≤ G := z272 S _
def keptL (m : List Sky) (l : Limits) : List Bool := m.map fun x => keptB x l
theorem z747 {s : List Hour} {q : Hour → Bool} {k : Nat} (hk : k < s.length) : (s.map q)[k]? = some (q (hourAt s (k : Int))) := by
  rw [List.getElem?_map]
  have := z836 (l := s) (i := (k : Int)) ⟨by omega, by omega⟩
  rw [Int.toNat_natCast] at this
  rw [this]
  rfl
theorem z750 {m : List Sky} {l : Limits} {k : Nat} (hk : k < m.length) : (keptL m l)[k]? = some (keptB (skyAt m k) l) := by
  rw [keptL, List.getElem?_map, z877 hk]
  rfl
theorem z583 {m : List Sky} {l : Limits} {s : List Hour} (hl : s.length = m.length) (hin : ∀ j < m.length, insideB (skyAt m j) (hourAt s (j : Int)) = true) :
    LeB (s.map (alwaysB l)) (keptL m l) ∧ LeB (keptL m l) (s.map (everB l)) := by
  constructor
  · intro k hk
    have hlt : k < s.length := by have := (List.getElem?_eq_some_iff.1 hk).1; simpa using this
    rw [z747 hlt] at hk
    rw [z750 (by omega)]
    rw [z736 (hin k (by omega)) (by simpa using hk)]
  · intro k hk
    have hlt : k < m.length := by have := (List.getElem?_eq_some_iff.1 hk).1; simpa [keptL] using this
    rw [z750 hlt] at hk
    rw [z747 (by omega), z912 (hin k hlt) (by simpa using hk)]
theorem z1161 {S : List (List Hour)} {m : List Sky} {l : Limits} {n : Nat} (hn : 1 ≤ n) {s : List Hour} (hs : s ∈ S) (hl : s.length = m.length) (hin : ∀ j < m.length, insideB (skyAt m j) (hourAt s (j : Int)) = true) :
    (0 ≤ beginsF (keptL m l) n → 0 ≤ winFirst l n S m.length ∧ winFirst l n S m.length ≤ beginsF (keptL m l) n ∧ winFirst l n S m.length < m.length) ∧
    (winNever l n S = false → 0 ≤ beginsF (keptL m l) n ∧ beginsF (keptL m l) n ≤ winLast l n S ∧ winFirst l n S m.length ≤ winLast l n S) ∧
    ∀ k < m.length, gapAt (keptL m l) n k ≤ gapS l n S := by
  obtain ⟨hA, hE⟩ := z583 (l := l) hl hin
  have hf := (z192 S _).1 (Int.le_refl (winFirst l (n : Int) S m.length))
  have hla := z768.1 (Int.le_refl (winLast l (n : Int) S))
  have hga := z1030.1 (Int.le_refl (gapS l (n : Int) S))
  refine ⟨fun hb => ?_, fun hnv => ?_, fun k hk => ?_⟩
  · have h1 := z150 hn hE hb
    have h2 := hf.2 s hs h1.1
    have h3 := z424 hn hb
    have h4 : (keptL m l).length = m.length := by simp [keptL]
    refine ⟨(z192 S _).2 ⟨by omega, fun _ _ h => h⟩, by omega, by omega⟩
  · have hs0 : 0 ≤ beginsF (s.map (alwaysB l)) n := by
      unfold winNever at hnv
      have := List.any_eq_false.1 hnv s hs
      simpa using this
    have h1 := z150 hn hA hs0
    have h2 := hla.2 s hs
    have h3 := z150 hn hE h1.1
    have h4 := hf.2 s hs h3.1
    exact ⟨h1.1, by omega, by omega⟩
  · have h1 := hga.2 s hs k (by omega)
    have h2 := z842 hn hA (by simp [keptL, hl]) (k := k) (by rw [List.length_map]; omega)
    omega
end Go.Ab
namespace Go.Ab
open Go.RowKit Go.Proofs
set_option maxHeartbeats 4000000
set_option maxRecDepth 20000
def widerL (l : Limits) (wind rain temp : Int) : Limits := ⟨min 200 (l.wind + wind), min 100 (l.rain + rain), ⟨max (-50) (l.temp.lo - temp), min 50 (l.temp.hi + temp)⟩⟩
def withinS (A B : List Span) (H : Nat) : Bool := (List.range H).all fun h => !(inSpans A (h : Int)) || inSpans B (h : Int)
end Go.Ab
namespace Go.Ab
open Go.RowKit Go.Proofs
set_option maxHeartbeats 4000000
set_option maxRecDepth 20000
attribute [local irreducible] WalkL Walk
structure Carrier where
  lift : Int
  heat : Int
  cost : Int
  lim : Limits
def Carrier.row (c : Carrier) : List DV := [.i c.lift, .i c.heat, .i c.cost, .i c.lim.wind, .i c.lim.rain, .i c.lim.temp.lo, .i c.lim.temp.hi]
def carrRows (l : List Carrier) : List (List DV) := l.map Carrier.row
structure Supply where
  scen : List (List Hour)
  seen : List Sight
  stock : Int
  reserve : Int
  room : Int
  use : Span
  carr : List Carrier
def Supply.cells (s : Supply) : List DV := [.sl (scenRows s.scen), .sl (sightRows s.seen), .i s.stock, .i s.reserve, .i s.room, .i s.use.lo, .i s.use.hi, .sl (carrRows s.carr)]
structure SuppSmall (s : Supply) : Prop where
  fore : ForeSmall s.scen
  seen : s.seen.length < 2 ^ 30
  carr : s.carr.length < 2 ^ 30
def carrBad (c : Carrier) : Bool := !withinB c.lift 0 1000 || (!withinB c.heat 0 50 || (!withinB c.cost 0 10000 || !limB c.lim))
def storeBad (s : Supply) : Bool := !withinB s.room 0 5000 || (!withinB s.stock 0 s.room || (!withinB s.reserve 0 s.room || !orderedB s.use 0 500))
def carrsBad (s : Supply) : Bool := decide ((s.carr.length : Int) > 4) || s.carr.any carrBad
def suppE (s : Supply) : Int := if lookF s.scen s.seen 0 true = 0 then (if storeBad s then 60 else if carrsBad s then 61 else 0) else lookF s.scen s.seen 0 true
end Go.Ab
namespace Go.Ab
open Go.RowKit
inductive Sh where
  | int (k : IntKind)
  | bool
  | sl (row : List Sh)
mutual
def Sh.fits (N : Nat) : Sh → DV → Prop
  | .int k, d => ∃ n, d = .int k n ∧ (Lit.int k n).wf = true
  | .bool, d => ∃ b, d = .bool b
  | .sl r, d => ∃ rows, d = .sl rows ∧ rows.length ≤ N ∧ ∀ row ∈ rows, Sh.fitsL N r row
def Sh.fitsL (N : Nat) : List Sh → List DV → Prop
  | [], ds => ds = []
  | s :: ss, ds => ∃ d r, ds = d :: r ∧ Sh.fits N s d ∧ Sh.fitsL N ss r
end
theorem Sh.fitsL_len {N : Nat} : ∀ {ss : List Sh} {ds : List DV}, Sh.fitsL N ss ds → ds.length = ss.length
  | [], _, h => by simp only [Sh.fitsL] at h; subst h; rfl
  | s :: ss, ds, h => by
    simp only [Sh.fitsL] at h
    obtain ⟨d, r, rfl, _, h⟩ := h
    simp [Sh.fitsL_len h]
theorem Sh.fitsL_append {N : Nat} : ∀ {ss ts : List Sh} {ds es : List DV}, Sh.fitsL N ss ds → Sh.fitsL N ts es → Sh.fitsL N (ss ++ ts) (ds ++ es)
  | [], _, _, _, h, k => by simp only [Sh.fitsL] at h; subst h; simpa using k
  | s :: ss, ts, ds, es, h, k => by
    simp only [Sh.fitsL] at h
    obtain ⟨d, r, rfl, hd, h⟩ := h
    simp only [List.cons_append, Sh.fitsL]
    exact ⟨d, r ++ es, rfl, hd, Sh.fitsL_append h k⟩
def shapesF (P : Program) (g : TypeId → Option (List Sh)) : List Field → Nat → Option (List Sh)
  | [], _ => some []
  | f :: fs, o => if f.offset = o then (g f.type).bind fun r => if P.cellsOf f.type = r.length then (shapesF P g fs (o + r.length)).map fun s => r ++ s else none else none
def shapes (P : Program) : Nat → TypeId → Option (List Sh)
  | 0, _ => none
  | n + 1, t => match P.underlying t with
    | some .bool => some [.bool]
    | some (.int k) => some [.int k]
    | some (.slice e) => (shapes P n e).bind fun r => if P.cellsOf e = r.length ∧ 0 < r.length then some [.sl r] else none
    | some (.struct fs) => (shapesF P (shapes P n) fs.toList 0).bind fun r => if P.cellsOf t = r.length then some r else none
    | _ => none
structure BulkOk {H : Type} (b : DataW H → Nat) : Prop where
  slice : ∀ elems spare, elems.length ≤ b (.slice elems spare)
  elem : ∀ elems spare, ∀ d ∈ elems, b d ≤ b (.slice elems spare)
  part : ∀ parts, ∀ d ∈ parts, b d ≤ b (.agg parts)
def Reads (w : World) (ds : List DV) (cs : List Value) : Prop :=
  ∀ (i : Nat) d v, ds[i]? = some d → cs[i]? = some v → v.oneCell' = true ∧ DRel w (fun _ => False) d v
section
variable {H : Type} {enc : TypeId × Value → H} {P : Program} {w : World} {sp : Nat → Bool} {held : Bool}
theorem z1059 {b : DataW H → Nat} {N : Nat} {g : TypeId → Option (List Sh)} {m : Nat} {cs : List Value}
    (hg : ∀ (t : TypeId) sh, g t = some sh → ∀ cs d ps, DataW.trod enc P w 0 sp held m t cs = some (d, ps) → b d ≤ N → cs.length = sh.length ∧ ∃ ds, Sh.fitsL N sh ds ∧ Reads w ds cs) :
    ∀ (fs : List Field) (xs : List (DataW H × List MemPlace)) (o : Nat) (sh : List Sh), shapesF P g fs o = some sh → xs.length = fs.length →
      (∀ (i : Nat) (f : Field), fs[i]? = some f → DataW.trod enc P w 0 sp held m f.type ((cs.drop f.offset).take (P.cellsOf f.type)) = xs[i]?) → (∀ x ∈ xs, b x.1 ≤ N) →
      ∃ ds, Sh.fitsL N sh ds ∧ Reads w ds (cs.drop o)
  | [], xs, o, sh, h, hl, _, _ => by
    simp only [shapesF, Option.some.injEq] at h
    subst h
    exact ⟨[], by simp [Sh.fitsL], fun i d v h => by simp at h⟩
  | f :: fs, xs, o, sh, h, hl, hx, hb => by
    simp only [shapesF] at h
    split at h
    case isFalse => cases h
    case isTrue ho =>
    obtain ⟨r, hr, h⟩ := Option.bind_eq_some_iff.1 h
    split at h
    case isFalse => cases h
    case isTrue hc =>
    obtain ⟨s, hs, rfl⟩ := Option.map_eq_some_iff.1 h
    cases xs with
    | nil => simp at hl
    | cons x xs =>
      have h0 := hx 0 f rfl
      rw [List.getElem?_cons_zero] at h0
      obtain ⟨hlen, ds, hf, hd⟩ := hg _ _ hr _ x.1 x.2 h0 (hb x (by simp))
      obtain ⟨es, he, hd'⟩ := z1059 hg fs xs (o + r.length) s hs (by simpa using hl) (fun i f' hf' => by simpa using hx (i + 1) f' (by simpa using hf')) (fun y hy => hb y (by simp [hy]))
      have hdl := Sh.fitsL_len hf
      refine ⟨ds ++ es, Sh.fitsL_append hf he, fun i d v h1 h2 => ?_⟩
      rw [List.getElem?_drop] at h2
      rcases Nat.lt_or_ge i ds.length with hi | hi
      · rw [List.getElem?_append_left hi] at h1
        refine hd i d v h1 ?_
        rw [List.getElem?_take, List.getElem?_drop, ho, if_pos (by omega), h2]
      · rw [List.getElem?_append_right hi] at h1
        refine hd' (i - ds.length) d v h1 ?_
        rw [List.getElem?_drop]
        rw [show o + r.length + (i - ds.length) = o + i from by omega, h2]
theorem z933 {w : World} {a : Addr} {n : Nat} {cs : List Value} (h : w.cells? 0 a n = some cs) : cs.length = n ∧ ∀ j, j < n → w.cell? (a.add j) = cs[j]? := by
  simp only [World.cells?, Nat.zero_le, if_true] at h
  exact ⟨by simpa using mapM_some_length h, fun j hj => mapM_some_get h j j (by simp [hj])⟩
theorem z934 {w : World} {a : Addr} {v : Value} (h : w.cell? a = some v) : a.spot = none := by
  unfold World.cell? at h
  split at h
  · split at h
    · cases h
    · cases hs : a.spot <;> simp_all
  · cases h
theorem z213 {b : DataW H → Nat} (hb : BulkOk b) (N : Nat) : ∀ (n : Nat) (t : TypeId) (sh : List Sh), shapes P n t = some sh → ∀ fuel cs d ps, DataW.trod enc P w 0 sp held fuel t cs = some (d, ps) → b d ≤ N →
    cs.length = sh.length ∧ ∃ ds, Sh.fitsL N sh ds ∧ Reads w ds cs
  | 0, _, _, h => by simp [shapes] at h
  | n + 1, t, sh, h => by
    intro fuel cs d ps hd hN
    unfold shapes at h
    split at h
    case h_1 ht =>
      cases h
      obtain ⟨v, rfl, _⟩ := DataW.trod_bool ht hd
      refine ⟨rfl, [.bool v], ?_, ?_⟩
      · simp [Sh.fitsL, Sh.fits]
      · intro i d' v' h1 h2
        cases i with
        | zero => simp only [List.getElem?_cons_zero, Option.some.injEq] at h1 h2; subst h1; subst h2; exact ⟨rfl, .bool _⟩
        | succ i => simp at h1
    case h_2 k ht =>
      cases h
      obtain ⟨v, rfl, _, hw⟩ := DataW.trod_int ht hd
      refine ⟨rfl, [.int k v], ?_, ?_⟩
      · simpa [Sh.fitsL, Sh.fits] using hw
      · intro i d' v' h1 h2
        cases i with
        | zero => simp only [List.getElem?_cons_zero, Option.some.injEq] at h1 h2; subst h1; subst h2; exact ⟨rfl, .int _ _⟩
        | succ i => simp at h1
    case h_3 e ht =>
      obtain ⟨r, hr, h⟩ := Option.bind_eq_some_iff.1 h
      split at h
      case isFalse => cases h
      case isTrue hc =>
      obtain ⟨hc, hp⟩ := hc
      cases h
      rcases DataW.trod_slice ht hd with ⟨rfl, _⟩ | ⟨a, len, cap, elems, rest, m, rfl, rfl, hx, _, hcap, _, hl, hel, _⟩
      · refine ⟨rfl, [.sl []], ?_, ?_⟩
        · simp [Sh.fitsL, Sh.fits]
        · intro i d' v' h1 h2
          cases i with
          | zero => simp only [List.getElem?_cons_zero, Option.some.injEq] at h1 h2; subst h1; subst h2; exact ⟨rfl, .slNil⟩
          | succ i => simp at h1
      · obtain rfl : d = .slice (elems.map (·.1)) (rest.map (·.1)) := congrArg Prod.fst hx
        have hrow : ∀ i : Nat, ∃ ds : List DV, i < len → Sh.fitsL N r ds ∧ ∀ j d, ds[j]? = some d → ∃ v, w.cell? (a.add (i * r.length) |>.add j) = some v ∧ v.oneCell' = true ∧ DRel w (fun _ => False) d v := by
          intro i
          by_cases hi : i < len
          · have h1 := hel i hi
            rw [List.getElem?_eq_getElem (by omega)] at h1
            obtain ⟨cs', hcs, htr⟩ := Option.bind_eq_some_iff.1 h1
            have hin : (elems[i]'(by omega)).1 ∈ elems.map (·.1) := List.mem_map.2 ⟨_, List.getElem_mem _, rfl⟩
            obtain ⟨hlen, ds, hf, hds⟩ := z213 hb N n e r hr m cs' (elems[i]'(by omega)).1 (elems[i]'(by omega)).2 htr (Nat.le_trans (hb.elem _ _ _ hin) hN)
            refine ⟨ds, fun _ => ⟨hf, fun j d hj => ?_⟩⟩
            have hjl : j < ds.length := by
              rcases Nat.lt_or_ge j ds.length with h | h
              · exact h
              · rw [List.getElem?_eq_none h] at hj; cases hj
            rw [Sh.fitsL_len hf] at hjl
            have hcell := (z933 hcs).2 j (by omega)
            rw [hc] at hcell
            have hv : cs'[j]? = some (cs'[j]'(by omega)) := List.getElem?_eq_getElem _
            rw [hv] at hcell
            exact ⟨_, hcell, hds j d _ hj hv⟩
          · exact ⟨[], fun h => absurd h hi⟩
        have hcho := Classical.axiomOfChoice hrow
        obtain ⟨F, hF⟩ := hcho
        have hrl : ((List.range len).map F).length = len := by simp
        refine ⟨rfl, [.sl ((List.range len).map F)], ?_, ?_⟩
        · simp only [Sh.fitsL, Sh.fits]
          refine ⟨_, _, rfl, ⟨_, rfl, ?_, ?_⟩, rfl⟩
          · rw [hrl]
            have := hb.slice (elems.map (·.1)) (rest.map (·.1))
            simp only [List.length_map] at this
            omega
          · intro row hrow
            obtain ⟨i, hi, rfl⟩ := List.mem_map.1 hrow
            exact (hF i (by simpa using hi)).1
        · intro i d' v' h1 h2
          cases i with
          | succ i => simp at h1
          | zero =>
            simp only [List.getElem?_cons_zero, Option.some.injEq] at h1 h2
            subst h1; subst h2
            refine ⟨rfl, ?_⟩
            cases hlen : len with
            | zero => exact .slEmpty _ _
            | succ l =>
              have hspot : a.spot = none := by
                have h0 := hF 0 (by omega)
                have hfl := Sh.fitsL_len h0.1
                obtain ⟨v, hv, _⟩ := h0.2 0 ((F 0)[0]'(by omega)) (List.getElem?_eq_getElem _)
                simp only [Nat.zero_mul, Addr.add, if_true] at hv
                exact z934 hv
              obtain ⟨blk, off, spot⟩ := a
              simp only at hspot
              subst hspot
              have hadd : ∀ i j, (Addr.add (Addr.add ⟨blk, off, none⟩ (i * r.length)) j) = ⟨blk, off + i * r.length + j, none⟩ := by
                intro i j
                unfold Addr.add
                by_cases h1 : i * r.length = 0 <;> by_cases h2 : j = 0 <;> simp [h1, h2]
              have z45 : ∀ (i : Nat) (r' : List DV) (j : Nat) (d : DV), ((List.range len).map F)[i]? = some r' → r'[j]? = some d → ∃ v, w.cell? ⟨blk, off + i * r.length + j, none⟩ = some v ∧ v.oneCell' = true ∧ DRel w (fun _ => False) d v := by
                intro i r' j d h1 h2
                rw [List.getElem?_map] at h1
                obtain ⟨i', hi', rfl⟩ := Option.map_eq_some_iff.1 h1
                obtain ⟨hil, rfl⟩ := List.getElem?_eq_some_iff.1 hi'
                simp only [List.length_range] at hil
                simp only [List.getElem_range] at h2
                obtain ⟨v, hv, h3, h4⟩ := (hF i hil).2 j d h2
                rw [hadd] at hv
                exact ⟨v, hv, h3, h4⟩
              have hfin := DRel.sl (w := w) (own := fun _ => False) ((List.range len).map F) blk off r.length cap (fun i j => (w.cell? ⟨blk, off + i * r.length + j, none⟩).getD .nilFunc) (by rw [hrl]; exact hcap)
                (by
                  intro row hrow
                  obtain ⟨i, hi, rfl⟩ := List.mem_map.1 hrow
                  exact Sh.fitsL_len (hF i (by simpa using hi)).1)
                (by
                  intro i r' j d h1 h2
                  obtain ⟨v, hv, h3, _⟩ := z45 i r' j d h1 h2
                  rw [hv]
                  exact ⟨fun h => h, rfl, h3⟩)
                (by
                  intro i r' j d h1 h2
                  obtain ⟨v, hv, _, h4⟩ := z45 i r' j d h1 h2
                  simp only [hv, Option.getD_some]
                  exact h4)
              rw [hrl] at hfin
              rw [hlen] at hfin
              exact hfin
    case h_4 fs ht =>
      obtain ⟨r, hr, h⟩ := Option.bind_eq_some_iff.1 h
      split at h
      case isFalse => cases h
      case isTrue hc =>
      cases h
      obtain ⟨xs, m, rfl, hx, hl, hxl, hi⟩ := DataW.trod_struct ht hd
      obtain rfl : d = .agg (xs.map (·.1)) := congrArg Prod.fst hx
      obtain ⟨ds, hf, hds⟩ := z1059 (fun t sh h cs d ps hd hN => z213 hb N n t sh h m cs d ps hd hN) fs.toList xs 0 sh hr (by simpa using hxl) (fun i f hf => hi i f (by simpa using hf))
        (fun x hx => Nat.le_trans (hb.part _ _ (List.mem_map.2 ⟨x, hx, rfl⟩)) hN)
      exact ⟨by omega, ds, hf, by simpa using hds⟩
    case h_5 => cases h
end
end Go.Ab
/- The z1110 from a walked contract to a statement's contract, for arguments of any number and of the types that the statements take; where what is read is of bulk at most the bound. -/
namespace Go.Ab
open Go.RowKit Go.Proofs Go.ChangeShapes Go.WideShapes Go.Proofs.Ytgjnckiifffneaa
set_option linter.unusedVariables false
set_option maxRecDepth 100000
section
variable {H : Type} {enc : TypeId × Value → H} {P : Program}
theorem z479 {f : Func} {s : ChangeSpec} {apart fresh handsOn again : Bool} {W W' : World} {args : Array Value} {v : Value} {ds gs : List (DataW H)} {before pa pv : List MemPlace}
    (hW : DataW.Whole enc P f.params.toList s.vars apart W args.toList ds gs before)
    (hres : ∀ (b : Nat) (sp : Nat → Bool) (hd : Bool), DataW.TrodAll enc P W' b sp hd f.resultTypes.toList (v.resultList f.resultTypes.size) (s.fn H (ds ++ gs)).results [])
    (hargs : ∀ sp : Nat → Bool, (∀ p ∈ before, sp p.block = true) → DataW.TrodAll enc P W' 0 sp true f.params.toList args.toList (s.fn H (ds ++ gs)).args pa)
    (hvars : ∀ sp : Nat → Bool, (∀ p ∈ before, sp p.block = true) → DataW.TrodVars enc P W' sp s.vars (s.fn H (ds ++ gs)).vars pv)
    (hps : before = pa ++ pv) (hb : Below W.heap.size W W')
    (hok : ∀ (j : Nat) (t : TypeId) (r : Value), f.resultTypes[j]? = some t → (v.resultList f.resultTypes.size)[j]? = some r → Value.okWide P W' .any 0 t r) :
    s.post enc P f apart fresh handsOn again W args v W' := by
  have hlt := hW.lt
  have hold : ∀ p ∈ before, (fun b => decide (b < W.heap.size)) p.block = true := fun p hp => by simpa using hlt p hp
  refine ⟨ds, gs, before, [], pa, pv, hW, hres _ _ _, hargs _ hold, hvars _ hold, World.keptBut_mono (fun p hp => ⟨hp, ?_⟩) (hb.frame (· ∈ before)), fun _ => ?_⟩
  · rw [hps, List.mem_append] at hp
    exact Or.inr hp
  · obtain ⟨_, _, _, _, _, hz, hn⟩ := hW
    refine ⟨hok, _, _, ([] ++ pa) ++ pv, ⟨[] ++ pa, pv, trodAll_append (hargs _ (fun _ _ => rfl)) (hres _ _ _), hvars _ (fun _ _ => rfl), rfl, ?_, ?_⟩, ?_⟩
    · intro b off hp
      have hp' : MemPlace.cell b off ∈ before := by rw [hps]; simpa using hp
      rw [hb.frozen (p := ⟨b, off, none⟩) (hlt _ hp')]
      exact hz b off hp'
    · intro ha
      have := hn ha
      rw [hps] at this
      simpa using this
    · intro p hp _
      rw [hps]
      simpa using hp
end
theorem z196 {α : Type} {row : α → List DV} {Q : α → Prop} : ∀ {rows : List (List DV)}, (∀ r ∈ rows, ∃ a, r = row a ∧ Q a) → ∃ l : List α, rows = l.map row ∧ ∀ a ∈ l, Q a
  | [], _ => ⟨[], rfl, fun _ h => by cases h⟩
  | r :: rs, h => by
    obtain ⟨a, rfl, ha⟩ := h r (by simp)
    obtain ⟨l, rfl, hl⟩ := z196 (rows := rs) (fun r hr => h r (by simp [hr]))
    exact ⟨a :: l, rfl, fun b hb => by rcases List.mem_cons.1 hb with rfl | hb; exact ha; exact hl b hb⟩
def iS : Sh := .int .i64
def hourS : List Sh := [iS, iS, iS, iS, iS, iS]
def skyS : List Sh := [iS, iS, iS]
def sightS : List Sh := [iS, iS, iS, iS]
theorem z1066 {N : Nat} {r : List DV} (h : Sh.fitsL N [iS] r) : ∃ s : Int, r = [.i s] ∧ True := by
  simp only [iS, Sh.fitsL, Sh.fits] at h
  obtain ⟨_, _, rfl, ⟨a, rfl, _⟩, rfl⟩ := h
  exact ⟨a, rfl, trivial⟩
theorem z721 {N : Nat} {d : DV} (h : Sh.fits N (.sl [iS]) d) : ∃ l : List Int, d = .sl (intRows l) ∧ l.length ≤ N := by
  simp only [Sh.fits] at h
  obtain ⟨rows, rfl, hl, hr⟩ := h
  obtain ⟨l, rfl, _⟩ := z196 (fun r h => z1066 (hr r h))
  exact ⟨l, rfl, by simpa using hl⟩
theorem z499 {H : Type} : ∀ {l : List (DataW H)} {d : DataW H}, d ∈ l → Rows.uptoBulk d ≤ Rows.uptoBulkAll l
  | x :: r, d, h => by
    simp only [Rows.uptoBulkAll]
    rcases List.mem_cons.1 h with rfl | h
    · omega
    · have := z499 h
      omega
theorem z999 {H : Type} (d : DataW H) : 1 ≤ Rows.uptoBulk d := by
  cases d with
  | lit l => cases l <;> simp [Rows.uptoBulk]
  | _ => simp [Rows.uptoBulk]
theorem z764 {H : Type} : ∀ (l : List (DataW H)), l.length ≤ Rows.uptoBulkAll l
  | [] => by simp
  | x :: r => by
    have h1 := z999 x
    have h2 := z764 r
    simp only [Rows.uptoBulkAll, List.length_cons]
    omega
theorem z1008 {H : Type} : BulkOk (Rows.uptoBulk (H := H)) where
  slice := fun elems spare => by
    have := z764 elems
    simp only [Rows.uptoBulk]
    omega
  elem := fun elems spare d hd => by
    have := z499 hd
    simp only [Rows.uptoBulk]
    omega
  part := fun parts d hd => by
    have := z499 hd
    simp only [Rows.uptoBulk]
    omega
structure Rd (t : TypeId) (C : DV → Prop) : Prop where
  rec' : Try.prog.readableRec t = true
  lt : t < Try.prog.types.size
  read : ∀ (H : Type) (enc : TypeId × Value → H) (w : World) (base : Nat) (v : Value) (d : DataW H) (ps : List MemPlace), Value.okWide Try.prog w .any base t v → DataW.Trod enc Try.prog w 0 (fun _ => true) true t v d ps → Rows.uptoBulk d ≤ 1048576 → ∃ x, C x ∧ DRel w (fun _ => False) x v
theorem z1004 {H : Type} {enc : TypeId × Value → H} {w : World} {t : TypeId} {sh : List Sh} (hs : shapes Try.prog 20 t = some sh) (h2 : 2 ≤ sh.length) {v : Value} {d : DataW H} {ps : List MemPlace}
    (h : DataW.Trod enc Try.prog w 0 (fun _ => true) true t v d ps) (hd : Rows.uptoBulk d ≤ 1048576) :
    ∃ ds, Sh.fitsL 1048576 sh ds ∧ DRel w (fun _ => False) (.agg ds) v := by
  obtain ⟨fuel, h⟩ := h
  obtain ⟨hl, ds, hf, hr⟩ := z213 z1008 1048576 20 t sh hs fuel _ _ _ h hd
  have hdl := Sh.fitsL_len hf
  refine ⟨ds, hf, ?_⟩
  cases v with
  | agg cs =>
    simp only [Value.cells] at hl hr
    exact .agg _ _ (by simpa [hdl] using hl.symm) fun i d v h1 h2 => (hr i d v h1 (by simpa using h2)).2
  | _ => simp [Value.cells] at hl; omega
theorem z966 {H : Type} {enc : TypeId × Value → H} {w : World} {t : TypeId} {s : Sh} (hs : shapes Try.prog 20 t = some [s]) {v : Value} {d : DataW H} {ps : List MemPlace}
    (hv : v.cells.toList = [v]) (h : DataW.Trod enc Try.prog w 0 (fun _ => true) true t v d ps) (hd : Rows.uptoBulk d ≤ 1048576) :
    ∃ x, Sh.fits 1048576 s x ∧ DRel w (fun _ => False) x v := by
  obtain ⟨fuel, h⟩ := h
  obtain ⟨hl, ds, hf, hr⟩ := z213 z1008 1048576 20 t _ hs fuel _ _ _ h hd
  simp only [Sh.fitsL] at hf
  obtain ⟨x, _, rfl, hx, rfl⟩ := hf
  exact ⟨x, hx, (hr 0 x v rfl (by rw [hv]; rfl)).2⟩
def AllC : List (TypeId × (DV → Prop)) → List DV → Prop
  | [], [] => True
  | c :: cs, x :: xs => c.2 x ∧ AllC cs xs
  | _, _ => False
section
variable {H : Type} {enc : TypeId × Value → H} {W : World}
theorem z742 {base : Nat} : ∀ (L : List (TypeId × (DV → Prop))), (∀ c ∈ L, Rd c.1 c.2) → ∀ (vs : List Value) (ds : List (DataW H)) (ps : List MemPlace),
    (∀ (j : Nat) t v, (L.map (·.1))[j]? = some t → vs[j]? = some v → Value.okWide Try.prog W .any base t v) →
    DataW.TrodAll enc Try.prog W 0 (fun _ => true) true (L.map (·.1)) vs ds ps → Rows.uptoBulkAll ds ≤ 1048576 →
    vs.length = L.length ∧ ds.length = L.length ∧ ∃ xs, AllC L xs ∧ xs.length = L.length ∧ ∀ (i : Nat) x v, xs[i]? = some x → vs[i]? = some v → DRel W (fun _ => False) x v
  | [], _, vs, ds, ps, _, h, _ => by
    obtain ⟨rfl, rfl, rfl⟩ := trodAll_nil h
    exact ⟨rfl, rfl, [], trivial, rfl, fun i x v h => by simp at h⟩
  | c :: L, hc, vs, ds, ps, hval, h, hb => by
    obtain ⟨v, vs', d, ds', p, q, rfl, rfl, rfl, hd, hrest⟩ := trodAll_cons h
    simp only [Rows.uptoBulkAll] at hb
    obtain ⟨x, hx, hr⟩ := (hc c (by simp)).read H enc W base v d p (hval 0 _ v (by simp) (by simp)) hd (by omega)
    obtain ⟨h1, h2, xs, h3, h4, h5⟩ := z742 L (fun c h => hc c (by simp [h])) vs' ds' q (fun j t v h1 h2 => hval (j + 1) t v (by simpa using h1) (by simpa using h2)) hrest (by omega)
    refine ⟨by simp [h1], by simp [h2], x :: xs, ⟨hx, h3⟩, by simp [h4], fun i y w hy hw => ?_⟩
    cases i with
    | zero =>
      simp at hy hw
      subst hy
      subst hw
      exact hr
    | succ i => exact h5 i y w (by simpa using hy) (by simpa using hw)
theorem z740 {W' : World} {sp : Nat → Bool} : ∀ (L : List (TypeId × (DV → Prop))), (∀ c ∈ L, Rd c.1 c.2) → ∀ (vs : List Value) (ds : List (DataW H)) (ps : List MemPlace),
    DataW.TrodAll enc Try.prog W 0 (fun _ => true) true (L.map (·.1)) vs ds ps → (∀ y ∈ ps, y.block < W.heap.size) → Below W.heap.size W W' → (∀ y ∈ ps, sp y.block = true) →
    DataW.TrodAll enc Try.prog W' 0 sp true (L.map (·.1)) vs ds ps
  | [], _, vs, ds, ps, h, _, _, _ => by
    obtain ⟨rfl, rfl, rfl⟩ := trodAll_nil h
    exact trodAll_mk0
  | c :: L, hc, vs, ds, ps, h, hlt, hb, hsp => by
    obtain ⟨v, vs', d, ds', p, q, rfl, rfl, rfl, hd, hrest⟩ := trodAll_cons h
    have hrd := hc c (by simp)
    exact ⟨p, q, WideElems.Trod_stays (by kernel_rfl) hrd.rec' hrd.lt hd (fun y hy => hb.same (hlt y (by simp [hy]))) (fun y hy => hsp y (by simp [hy])),
      z740 L (fun c h => hc c (by simp [h])) vs' ds' q hrest (fun y hy => hlt y (by simp [hy])) hb (fun y hy => hsp y (by simp [hy])), rfl⟩
end
theorem z1110 {f : FuncId} {fn : Func} (L : List (TypeId × (DV → Prop))) (hL : ∀ c ∈ L, Rd c.1 c.2) (hf : ∀ xs, AllC L xs → Fn Try.prog f xs (.bool true)) (hfn : fn.params = (L.map (·.1)).toArray) (hr : fn.resultTypes = #[4])
    (s : ChangeSpec) (hv : s.vars = []) (hs : ∀ (H : Type) (ds : List (DataW H)), ds.length = L.length → s.fn H ds = { results := [.lit (.bool true)], args := ds })
    {H : Type} {enc : TypeId × Value → H} {W : World} {args : Array Value} {ds gs : List (DataW H)} {before : List MemPlace}
    {base : Nat} (hval : ∀ (j : Nat) t v, fn.params[j]? = some t → args[j]? = some v → Value.okWide Try.prog W .any base t v)
    (hW : DataW.Whole enc Try.prog fn.params.toList s.vars false W args.toList ds gs before) (hk : Rows.uptoSmall H (ds ++ gs) = true) :
    Calls Try.prog f args W fun e W' => ∃ v, e = .returned v ∧ s.post enc Try.prog fn false true false false W args v W' := by
  have hW' := hW
  obtain ⟨p, q, hA, hV, rfl, hfz, hnd⟩ := hW
  rw [hfn] at hA
  rw [hv] at hV
  obtain ⟨rfl, rfl⟩ := trodVars_none hV
  have hb := of_decide_eq_true hk
  simp only [List.append_nil] at hb
  obtain ⟨l1, l2, xs, hxs, l3, hrel⟩ := z742 (base := base) L hL _ _ _ (fun j t v h1 h2 => hval j t v (by rw [hfn]; simpa using h1) (by simpa using h2)) hA hb
  have hc := (hf xs hxs).2 W (fun _ => False) args (fun _ h => h.elim) (Hid.no (by kernel_rfl)) ⟨by rw [l3, ← l1]; simp, fun i x v h1 h2 => hrel i x v h1 (by simpa using h2)⟩
  refine hc.mono fun e W' h => ?_
  obtain ⟨v, rfl, hvr, hbel⟩ := h
  cases hvr
  refine ⟨_, rfl, ?_⟩
  have hlt : ∀ y ∈ p, y.block < W.heap.size := fun y hy => hW'.lt y (by simpa using hy)
  have hok : Value.okWide Try.prog W' .any 0 4 (.bool true) := okWide_bool_mk (t := 4) Try.underlying4 true
  have hsf : s.fn H (ds ++ []) = { results := [.lit (.bool true)], args := ds } := by rw [List.append_nil]; exact hs H ds l2
  refine z479 (pa := p) (pv := []) hW' ?_ ?_ ?_ (by simp) hbel ?_
  · intro b sp hd
    rw [hr, hsf]
    exact trodAll_mk1 (shut_bool Try.underlying4 _)
  · intro sp hsp
    rw [hfn, hsf]
    exact z740 L hL _ _ _ hA hlt hbel (fun y hy => hsp y (by simpa using hy))
  · intro sp hsp
    rw [hv, hsf]
    rfl
  · exact ok_one hr rfl hok
abbrev aU : TypeId × (DV → Prop) := (22, fun x => ∃ l : List Int, x = .sl (intRows l) ∧ l.length < 2 ^ 30)
abbrev aI : TypeId × (DV → Prop) := (3, fun x => ∃ n : Int, x = .i n)
theorem z1095 {c d : TypeId × (DV → Prop)} {xs : List DV} (h : AllC [c, d] xs) : ∃ x y, xs = [x, y] ∧ c.2 x ∧ d.2 y := by
  match xs, h with
  | [x, y], h => exact ⟨x, y, rfl, h.1, h.2.1⟩
end Go.Ab
namespace Go.Ab
open Go.RowKit Go.Proofs
def tripRows (l : List (Int × Int)) : List (List DV) := l.map fun p => [.i p.1, .i p.2]
end Go.Ab
namespace Go.Ab
open Go.RowKit Go.Proofs
set_option maxHeartbeats 8000000
set_option maxRecDepth 20000
attribute [local irreducible] WalkL Walk
def inSp (l : List Span) (n : Nat) : Bool := l.any fun s => withinB n s.lo s.hi
def rowQ (f : Nat → Int) (H : Nat) (q : Nat → Bool) : List Int := (List.range H).map fun u => if q u then f u else 0
theorem z145 (H : Nat) : List.replicate H [DV.i 0] = intRows (List.replicate H 0) := by simp [intRows]
def heatF (S : List (List Hour)) (t : Nat) : Int := max 0 (hullAll S (t : Int)).temp.hi
def heatL (S : List (List Hour)) (H : Nat) : List Int := rowQ (heatF S) H fun _ => true
def sureC (S : List (List Hour)) (H : Nat) (c : Carrier) : List Span := spansQ (fun i => S.all fun s => alwaysB c.lim (hourAt s (i : Int))) H
def loadOf (S : List (List Hour)) (c : Carrier) (t : Nat) : Int := max 0 (wr (c.lift - wr (c.heat * heatF S t)))
def loadRow (S : List (List Hour)) (H : Nat) (c : Carrier) : List Int := rowQ (loadOf S c) H (inSp (sureC S H c))
def hutRow (s : Supply) (L : List (List Int)) (H : Nat) : List DV := [.sl (scenRows s.scen), .sl (sightRows s.seen), .i s.stock, .i s.reserve, .i s.room, .i s.use.lo, .i s.use.hi, .sl (carrRows s.carr), .sl (listRows L), .i H]
def Supply.scens (s : Supply) : List (List Hour) := scensOf (possL s.scen s.seen)
def Supply.hours (s : Supply) : Nat := (hd0 s.scen).length
def Supply.loads (s : Supply) : List (List Int) := s.carr.map (loadRow s.scens s.hours)
def hutOf (s : Supply) : List DV := hutRow s s.loads s.hours
def openS6 (s : Supply) (told : Bool) : Int := if suppE s = 0 then (if told then 0 else 1) else suppE s
def openT6 (s : Supply) (ok told : Bool) : Int := if suppE s = 0 then (if ok then (if told then 0 else 1) else 62) else suppE s
end Go.Ab
namespace Go.Ab
open Go.RowKit Go.Proofs
set_option maxHeartbeats 16000000
set_option maxRecDepth 20000
attribute [local irreducible] WalkL Walk
structure Flight where
  set : Int
  load : Int
  cost : Int
def Flight.row (f : Flight) : List DV := [.i f.set, .i f.load, .i f.cost]
def flRows (l : List Flight) : List (List DV) := l.map Flight.row
def addF (i : Nat) (l cost : Int) (f : Flight) : Flight := ⟨bOr .i64 f.set (bShl .i64 1 (i : Int)), wr (f.load + l), wr (f.cost + cost)⟩
def stepFl (i : Nat) (l cost : Int) (out : List Flight) : List Flight := if l = 0 then out else out ++ out.map (addF i l cost)
def noCarrier : Carrier := ⟨0, 0, 0, ⟨0, 0, ⟨0, 0⟩⟩⟩
def flightsTo (cs : List Carrier) (L : List (List Int)) (h : Nat) : Nat → List Flight
  | 0 => [⟨0, 0, 0⟩]
  | i + 1 => stepFl i (getI (L.getD i []) (h : Int)) (cs.getD i noCarrier).cost (flightsTo cs L h i)
def fl5 : Nat → AV
  | 0 => .own 11
  | _ => .own 65
def fl32 (N : Nat) (R : List (List DV)) : Nat → AV
  | 0 => .view 11 0 N
  | 1 => .d (.sl R)
  | _ => .view 65 0 N
def flM (b : Blk) : Nat → Option Blk
  | 0 => some b
  | _ => none
def flM' (b : Blk) : Nat → Option Blk
  | 0 => none
  | _ => some b
end Go.Ab
namespace Go.Ab
open Go.RowKit Go.Proofs
set_option maxHeartbeats 8000000
set_option maxRecDepth 20000
attribute [local irreducible] WalkL Walk
def fitsB6 (s : Supply) (h b : Int) : Bool := decide (wr (wr (s.stock + b) - wr (h * s.use.lo)) ≤ s.room)
def suffB (s : Supply) (h b : Int) : Bool := decide (wr (wr (s.stock + b) - wr (wr (h + 1) * s.use.hi)) ≥ s.reserve)
def okFl (s : Supply) (h b : Int) (f : Flight) : Bool := fitsB6 s h (wr (b + f.load)) && suffB s h (wr (b + f.load))
def nextItem (h b : Int) (f : Flight) : List DV := [.agg f.row, .agg [.i (wr (h + 1)), .i (wr (b + f.load))]]
def nextF (s : Supply) (fl : List Flight) (h b : Int) : List Flight := fl.filter (okFl s h b)
end Go.Ab
namespace Go.Ab
open Go.RowKit Go.Proofs
set_option maxHeartbeats 16000000
set_option maxRecDepth 20000
attribute [local irreducible] WalkL Walk
structure Way where
  cost : Int
  fl : Flight
def wayD : Option Way → DV
  | none => .nilptr
  | some w => .ptr [.i w.cost, .i w.fl.set, .i w.fl.load, .i w.fl.cost] 0
abbrev Ent := (Int × Int) × Option Way × Nat
def memE (es : List Ent) : List (MK × DV × Nat) := es.map fun e => (.s [e.1.1, e.1.2], wayD e.2.1, e.2.2)
def lookE : List Ent → Int × Int → Nat → Option (Nat × Option Way × Nat)
  | [], _, _ => none
  | e :: es, k, i => if k = e.1 then some (i, e.2.1, e.2.2) else lookE es k (i + 1)
def putE : List Ent → Int × Int → Option Way → Nat → List Ent × Nat
  | [], k, w, c => ([(k, w, c)], c + 1)
  | e :: es, k, w, c => if k = e.1 then ((k, w, e.2.2) :: es, c) else (e :: (putE es k w c).1, (putE es k w c).2)
def better (best : Option Way) (f : Flight) : Option Way → Option Way
  | none => best
  | some w => match best with
    | none => some ⟨wr (f.cost + w.cost), f⟩
    | some v => if wr (f.cost + w.cost) < v.cost then some ⟨wr (f.cost + w.cost), f⟩ else best
def doneW : Option Way := some ⟨0, ⟨0, 0, 0⟩⟩
def findM (s : Supply) (L : List (List Int)) (H : Nat) : Nat → Int → List Ent × Nat → Option Way × (List Ent × Nat)
  | 0, b, m => (doneW, putE m.1 ((H : Int), b) doneW m.2)
  | n + 1, b, m => match lookE m.1 (((H - (n + 1) : Nat) : Int), b) 0 with
    | some (_, v, _) => (v, m)
    | none => (((nextF s (flightsTo s.carr L (H - (n + 1)) L.length) ((H - (n + 1) : Nat) : Int) b).foldl (fun a f => (better a.1 f (findM s L H n (wr (b + f.load)) a.2).1, (findM s L H n (wr (b + f.load)) a.2).2)) (none, m)).1,
      putE ((nextF s (flightsTo s.carr L (H - (n + 1)) L.length) ((H - (n + 1) : Nat) : Int) b).foldl (fun a f => (better a.1 f (findM s L H n (wr (b + f.load)) a.2).1, (findM s L H n (wr (b + f.load)) a.2).2)) (none, m)).2.1 (((H - (n + 1) : Nat) : Int), b)
        ((nextF s (flightsTo s.carr L (H - (n + 1)) L.length) ((H - (n + 1) : Nat) : Int) b).foldl (fun a f => (better a.1 f (findM s L H n (wr (b + f.load)) a.2).1, (findM s L H n (wr (b + f.load)) a.2).2)) (none, m)).1
        ((nextF s (flightsTo s.carr L (H - (n + 1)) L.length) ((H - (n + 1) : Nat) : Int) b).foldl (fun a f => (better a.1 f (findM s L H n (wr (b + f.load)) a.2).1, (findM s L H n (wr (b + f.load)) a.2).2)) (none, m)).2.2)
end Go.Ab
namespace Go.Ab
open Go.RowKit Go.Proofs
def lookW (es : List Ent) (k : Int × Int) : Option (Option Way) := (lookE es k 0).map (·.2.1)
structure GoodM (H : Nat) (es : List Ent) : Prop where
  done : ∀ b v, lookW es ((H : Int), b) = some v → v = doneW
  next : ∀ (h : Nat) b w, h < H → lookW es ((h : Int), b) = some (some w) → ∃ w', lookW es (((h + 1 : Nat) : Int), wr (b + w.fl.load)) = some (some w')
end Go.Ab
namespace Go.Ab
open Go.RowKit Go.Proofs
set_option maxHeartbeats 8000000
set_option maxRecDepth 20000
attribute [local irreducible] WalkL Walk
structure Small6 (s : Supply) : Prop where
  len : s.loads.length = s.carr.length
  few : s.loads.length ≤ 4
  rows : ∀ r ∈ s.loads, r.length = s.hours
  hours : 1 ≤ s.hours ∧ s.hours ≤ 48
  look : lookF s.scen s.seen 0 true = 0
def foundM (s : Supply) : Option Way × (List Ent × Nat) := findM s s.loads s.hours s.hours 0 ([], 0)
def planE (s : Supply) : Int := if (foundM s).1.isNone then 3 else 0
end Go.Ab
namespace Go.Ab
open Go.RowKit Go.Proofs
set_option maxHeartbeats 8000000
set_option maxRecDepth 20000
attribute [local irreducible] WalkL Walk
def bitB (set : Int) (c : Nat) : Bool := bAnd .i64 (bShr .i64 set (c : Int)) 1 == 1
def tripsTo (h : Nat) (set : Int) (n : Nat) : List (Int × Int) := ((List.range n).filter (bitB set)).map fun (c : Nat) => ((h : Int), (c : Int))
def planT (es : List Ent) (n : Nat) : Nat → Nat → Int → Way → List (Int × Int)
  | 0, _, _, _ => []
  | k + 1, h, b, w => tripsTo h w.fl.set n ++ match lookW es (((h + 1 : Nat) : Int), wr (b + w.fl.load)) with
    | some (some w') => planT es n k (h + 1) (wr (b + w.fl.load)) w'
    | _ => []
def planS (s : Supply) : List (Int × Int) × Int × Int := match (foundM s).1 with
  | none => ([], 0, 3)
  | some w => (planT (foundM s).2.1 s.carr.length s.hours 0 0 w, w.cost, 0)
end Go.Ab
namespace Go.Ab
open Go.RowKit Go.Proofs
set_option maxHeartbeats 8000000
set_option maxRecDepth 20000
attribute [local irreducible] WalkL Walk
theorem z326 {a b : List Int} (hl : a.length = b.length) (h : a.take a.length = b.take a.length) : a = b := by
  rw [List.take_length, hl, List.take_length] at h
  exact h
def storeBadR (s : Supply) : Bool := !withinB s.room 0 5000 || (!withinB s.stock 0 s.room || (!withinB s.reserve 0 s.room || (!withinB s.use.lo 0 s.use.hi || decide (s.use.hi > 500))))
def exS : Supply := ⟨exF, [], 30, 10, 60, ⟨5, 8⟩, [⟨20, 1, 7, ⟨40, 0, ⟨-5, 15⟩⟩⟩, ⟨15, 0, 4, ⟨200, 100, ⟨-50, 50⟩⟩⟩]⟩
end Go.Ab
namespace Go.Ab
open Go.RowKit Go.Proofs
set_option maxHeartbeats 8000000
set_option maxRecDepth 20000
attribute [local irreducible] WalkL Walk
def far6 (s : Supply) : Bool := far5 s.scen s.seen || (decide ((s.carr.length : Int) > 20) || (suppE s == 0 && (decide ((s.hours : Int) > 6) || (decide ((s.scen.length : Int) > 3) || decide ((s.carr.length : Int) > 2)))))
def valid6 (s : Supply) : Bool := !far6 s && suppE s == 0
end Go.Ab
namespace Go.Ab
open Go.RowKit Go.Proofs
set_option maxHeartbeats 8000000
set_option maxRecDepth 20000
attribute [local irreducible] WalkL Walk
def askB (s : Supply) (c n : Int) : Bool := withinB c 0 ((s.carr.length : Int) - 1) && withinB n 1 48
def nextW (s : Supply) (c n : Int) : Int × Int × Int := windowF s.scen s.seen (s.carr.getD c.toNat ⟨0, 0, 0, ⟨0, 0, ⟨0, 0⟩⟩⟩).lim n
def nextE (s : Supply) (c n : Int) : Int := if (nextW s c n).2.2 = 0 ∧ (nextW s c n).2.1 < 0 then 3 else (nextW s c n).2.2
def nextP (s : Supply) (c n : Int) : Int × Bool × Int :=
  if openS6 s (askB s c n) = 0 then (if nextE s c n = 0 then ((nextW s c n).2.1, (nextW s c n).2.1 == 0 || decide (wr (s.stock - wr ((nextW s c n).2.1 * s.use.hi)) ≥ s.reserve), 0) else (0, false, nextE s c n)) else (0, false, openS6 s (askB s c n))
end Go.Ab
namespace Go.Ab
open Go.RowKit Go.Proofs
set_option maxHeartbeats 8000000
set_option maxRecDepth 20000
attribute [local irreducible] WalkL Walk
end Go.Ab
namespace Go.Ab
open Go.RowKit Go.Proofs
set_option maxHeartbeats 8000000
set_option maxRecDepth 20000
attribute [local irreducible] WalkL Walk
def usesB (s : Supply) (l : List Int) : Bool := l.all (fun x => withinB x s.use.lo s.use.hi) && ((l.length : Int) == (s.hours : Int))
end Go.Ab
namespace Go.Ab
open Go.RowKit Go.Proofs
end Go.Ab
namespace Go.Ab
open Go.RowKit Go.Proofs
def Supply.more (s : Supply) (x : Sight) : Supply := { s with seen := s.seen ++ [x] }
end Go.Ab
namespace Go.Ab
open Go.RowKit Go.Proofs
set_option maxHeartbeats 8000000
set_option maxRecDepth 20000
attribute [local irreducible] WalkL Walk
structure Batch where
  good : Int
  amount : Int
  last : Int
def Batch.row (b : Batch) : List DV := [.i b.good, .i b.amount, .i b.last]
def batRows (l : List Batch) : List (List DV) := l.map Batch.row
structure Dish where
  needs : List Int
def Dish.row (d : Dish) : List DV := [.sl (intRows d.needs)]
def dishRows (l : List Dish) : List (List DV) := l.map Dish.row
structure Diners where
  no : Int
  count : Span
def Diners.row (d : Diners) : List DV := [.i d.no, .i d.count.lo, .i d.count.hi]
def dinRows (l : List Diners) : List (List DV) := l.map Diners.row
def dayRows (l : List (List Diners)) : List (List DV) := l.map fun d => [.sl (dinRows d)]
structure Kitchen where
  allerg : List Int
  batches : List Batch
  dishes : List Dish
  days : List (List Diners)
def Kitchen.cells (k : Kitchen) : List DV := [.sl (intRows k.allerg), .sl (batRows k.batches), .sl (dishRows k.dishes), .sl (dayRows k.days)]
theorem z356 (l : List Batch) : (batRows l).length = l.length := by simp [batRows]
theorem z613 (l : List Dish) : (dishRows l).length = l.length := by simp [dishRows]
theorem z109 (l : List Diners) : (dinRows l).length = l.length := by simp [dinRows]
theorem z208 (l : List (List Diners)) : (dayRows l).length = l.length := by simp [dayRows]
theorem z268 {l : List Batch} {i : Nat} {x : Batch} (h : l[i]? = some x) : (batRows l)[i]? = some x.row := by simp [batRows, h]
theorem z108 {l : List Dish} {i : Nat} {x : Dish} (h : l[i]? = some x) : (dishRows l)[i]? = some x.row := by simp [dishRows, h]
theorem z68 {l : List Diners} {i : Nat} {x : Diners} (h : l[i]? = some x) : (dinRows l)[i]? = some x.row := by simp [dinRows, h]
theorem z69 {l : List (List Diners)} {i : Nat} {x : List Diners} (h : l[i]? = some x) : (dayRows l)[i]? = some [.sl (dinRows x)] := by simp [dayRows, h]
theorem z624 (l : List Batch) : headIs 3 (batRows l) = true := by cases l <;> rfl
attribute [go_sem] z356 z613 z109 z208 z20
structure KitSmall (k : Kitchen) : Prop where
  allerg : k.allerg.length < 2 ^ 30
  batches : k.batches.length < 2 ^ 30
  dishes : k.dishes.length < 2 ^ 30
  needs : ∀ d ∈ k.dishes, d.needs.length < 2 ^ 30
  days : k.days.length < 2 ^ 30
  groups : ∀ d ∈ k.days, d.length < 2 ^ 30
end Go.Ab
namespace Go.Ab
open Go.RowKit Go.Proofs Go.ChangeShapes Go.WideShapes Go.Proofs.Ytgjnckiifffneaa
set_option linter.unusedVariables false
set_option maxRecDepth 100000
def threeS : List Sh := [iS, iS, iS]
theorem z1071 {N : Nat} {r : List DV} (h : Sh.fitsL N threeS r) : ∃ s : Batch, r = s.row ∧ True := by
  simp only [threeS, iS, Sh.fitsL, Sh.fits] at h
  obtain ⟨_, _, rfl, ⟨a, rfl, _⟩, _, _, rfl, ⟨b, rfl, _⟩, _, _, rfl, ⟨c, rfl, _⟩, rfl⟩ := h
  exact ⟨⟨a, b, c⟩, rfl, trivial⟩
theorem z1069 {N : Nat} {r : List DV} (h : Sh.fitsL N threeS r) : ∃ s : Diners, r = s.row ∧ True := by
  simp only [threeS, iS, Sh.fitsL, Sh.fits] at h
  obtain ⟨_, _, rfl, ⟨a, rfl, _⟩, _, _, rfl, ⟨b, rfl, _⟩, _, _, rfl, ⟨c, rfl, _⟩, rfl⟩ := h
  exact ⟨⟨a, ⟨b, c⟩⟩, rfl, trivial⟩
theorem z1042 {N : Nat} {d : DV} (h : Sh.fits N (.sl threeS) d) : ∃ l : List Batch, d = .sl (batRows l) ∧ l.length ≤ N := by
  simp only [Sh.fits] at h
  obtain ⟨rows, rfl, hl, hr⟩ := h
  obtain ⟨l, rfl, _⟩ := z196 (fun r h => z1071 (hr r h))
  exact ⟨l, rfl, by simpa using hl⟩
theorem z1037 {N : Nat} {r : List DV} (h : Sh.fitsL N [.sl [iS]] r) : ∃ l : Dish, r = l.row ∧ l.needs.length ≤ N := by
  rw [Sh.fitsL] at h
  obtain ⟨d, _, rfl, h, h2⟩ := h
  rw [Sh.fitsL] at h2
  subst h2
  obtain ⟨l, rfl, hl⟩ := z721 h
  exact ⟨⟨l⟩, rfl, hl⟩
theorem z930 {N : Nat} {d : DV} (h : Sh.fits N (.sl [.sl [iS]]) d) : ∃ l : List Dish, d = .sl (dishRows l) ∧ l.length ≤ N ∧ ∀ x ∈ l, x.needs.length ≤ N := by
  rw [Sh.fits] at h
  obtain ⟨rows, rfl, hl, hr⟩ := h
  obtain ⟨l, rfl, hq⟩ := z196 (row := Dish.row) (fun r h => z1037 (hr r h))
  exact ⟨l, rfl, by simpa using hl, hq⟩
theorem z1024 {N : Nat} {r : List DV} (h : Sh.fitsL N [.sl [iS]] r) : ∃ l : List Int, r = [.sl (intRows l)] ∧ l.length ≤ N := by
  rw [Sh.fitsL] at h
  obtain ⟨d, _, rfl, h, h2⟩ := h
  rw [Sh.fitsL] at h2
  subst h2
  obtain ⟨l, rfl, hl⟩ := z721 h
  exact ⟨l, rfl, hl⟩
theorem z978 {N : Nat} {d : DV} (h : Sh.fits N (.sl [.sl [iS]]) d) : ∃ l : List (List Int), d = .sl (listRows l) ∧ l.length ≤ N ∧ ∀ x ∈ l, x.length ≤ N := by
  rw [Sh.fits] at h
  obtain ⟨rows, rfl, hl, hr⟩ := h
  obtain ⟨l, rfl, hq⟩ := z196 (row := fun l : List Int => [DV.sl (intRows l)]) (fun r h => z1024 (hr r h))
  exact ⟨l, rfl, by simpa using hl, hq⟩
theorem z1038 {N : Nat} {r : List DV} (h : Sh.fitsL N [.sl threeS] r) : ∃ l : List Diners, r = [.sl (dinRows l)] ∧ l.length ≤ N := by
  rw [Sh.fitsL] at h
  obtain ⟨d, _, rfl, h, h2⟩ := h
  rw [Sh.fitsL] at h2
  subst h2
  rw [Sh.fits] at h
  obtain ⟨rows, rfl, hl, hr⟩ := h
  obtain ⟨l, rfl, _⟩ := z196 (fun r h => z1069 (hr r h))
  exact ⟨l, rfl, by simpa using hl⟩
theorem z1039 {N : Nat} {d : DV} (h : Sh.fits N (.sl [.sl threeS]) d) : ∃ l : List (List Diners), d = .sl (dayRows l) ∧ l.length ≤ N ∧ ∀ x ∈ l, x.length ≤ N := by
  rw [Sh.fits] at h
  obtain ⟨rows, rfl, hl, hr⟩ := h
  obtain ⟨l, rfl, hq⟩ := z196 (row := fun l : List Diners => [DV.sl (dinRows l)]) (fun r h => z1038 (hr r h))
  exact ⟨l, rfl, by simpa using hl, hq⟩
def kitS : List Sh := [.sl [iS], .sl threeS, .sl [.sl [iS]], .sl [.sl threeS]]
theorem z1063 {N : Nat} (hN : N < 2 ^ 29) {r : List DV} (h : Sh.fitsL N kitS r) : ∃ k : Kitchen, r = k.cells ∧ KitSmall k := by
  unfold kitS at h
  rw [Sh.fitsL] at h
  obtain ⟨x0, _, rfl, h0, h⟩ := h
  rw [Sh.fitsL] at h
  obtain ⟨x1, _, rfl, h1, h⟩ := h
  rw [Sh.fitsL] at h
  obtain ⟨x2, _, rfl, h2, h⟩ := h
  rw [Sh.fitsL] at h
  obtain ⟨x3, _, rfl, h3, h⟩ := h
  rw [Sh.fitsL] at h
  subst h
  obtain ⟨A, rfl, a1⟩ := z721 h0
  obtain ⟨B, rfl, b1⟩ := z1042 h1
  obtain ⟨C, rfl, c1, c2⟩ := z930 h2
  obtain ⟨D, rfl, d1, d2⟩ := z1039 h3
  refine ⟨⟨A, B, C, D⟩, rfl, ⟨?_, ?_, ?_, fun x hx => ?_, ?_, fun x hx => ?_⟩⟩
  · show A.length < 2 ^ 30
    omega
  · show B.length < 2 ^ 30
    omega
  · show C.length < 2 ^ 30
    omega
  · have := c2 x hx
    omega
  · show D.length < 2 ^ 30
    omega
  · have := d2 x hx
    omega
theorem z1093 : shapes Try.prog 20 27 = some kitS := by kernel_rfl
theorem z1023 : shapes Try.prog 20 28 = some [.sl [.sl [iS]]] := by kernel_rfl
theorem z1089 : Rd 27 (fun x => ∃ k : Kitchen, x = .agg k.cells ∧ KitSmall k) :=
  ⟨by kernel_rfl, of_decide_eq_true (by kernel_rfl), fun H enc w base v d ps _ h hd => by
    obtain ⟨ds, hf, hr⟩ := z1004 z1093 (by decide) h hd
    obtain ⟨p, rfl, hp⟩ := z1063 (by decide) hf
    exact ⟨_, ⟨p, rfl, hp⟩, hr⟩⟩
theorem z1015 : Rd 28 (fun x => ∃ M : List (List Int), x = .sl (listRows M) ∧ M.length < 2 ^ 30 ∧ ∀ r ∈ M, r.length < 2 ^ 30) :=
  ⟨by kernel_rfl, of_decide_eq_true (by kernel_rfl), fun H enc w base v d ps hok h hd => by
    obtain ⟨a, len, cap, rfl⟩ := okWide_slice Try.underlying28 hok
    obtain ⟨x, hx, hr⟩ := z966 z1023 rfl h hd
    obtain ⟨l, rfl, hl, hl2⟩ := z978 hx
    exact ⟨_, ⟨l, rfl, by omega, fun r hr => by have := hl2 r hr; omega⟩, hr⟩⟩
abbrev aQ : TypeId × (DV → Prop) := (27, fun x => ∃ k : Kitchen, x = .agg k.cells ∧ KitSmall k)
abbrev aM : TypeId × (DV → Prop) := (28, fun x => ∃ M : List (List Int), x = .sl (listRows M) ∧ M.length < 2 ^ 30 ∧ ∀ r ∈ M, r.length < 2 ^ 30)
end Go.Ab
namespace Go.Ab
open Go.RowKit Go.Proofs
set_option maxHeartbeats 8000000
set_option maxRecDepth 20000
attribute [local irreducible] WalkL Walk
theorem z1122 (s : Int) (g : Nat) (caps : List DV) (b : Bool) (hq : Fn Try.prog g (.i s :: caps) (.bool b)) : Fn Try.prog 88 [.i s, .ptr [.fn g caps] 0] (.bool (!b)) := by
  refine z18 8 Try.call88 Try.func88 rfl (by decide) fun J => ?_
  simp (maxSteps := 4000000) only [go_sem, St.start, Try.ntmps88, Try.results88]
  repeat (first | refine nx ?_ | (refine z10 fun K hK => ?_; simp (maxSteps := 4000000) only [go_sem]; refine hK _ ?_; clear hK K))
  refine z10 fun K hK => ?_
  simp (maxSteps := 4000000) only [go_sem]
  refine ⟨_, .lent (hf := hq) (hd := z49 _ _ _ _ rfl) (hr := rfl), ?_⟩
  simp (maxSteps := 4000000) only [go_sem]
  refine hK _ ?_
  clear hK K
  repeat (first | refine nx ?_ | (refine z10 fun K hK => ?_; simp (maxSteps := 4000000) only [go_sem]; refine hK _ ?_; clear hK K))
  simp (maxSteps := 4000000) only [go_sem]
theorem z1098 (xs : List Int) (g : Nat) (caps : List DV) (q : Int → Bool) (hq : ∀ s ∈ xs, Fn Try.prog g (.i s :: caps) (.bool (q s))) (hl : xs.length < 2 ^ 62) : Fn Try.prog 67 [.sl (intRows xs), .fn g caps] (.bool (xs.all q)) := by
  have h := z1123 xs 88 [.ptr [.fn g caps] 0] (fun s => !q s) (fun s hs => z1122 s g caps (q s) (hq s hs)) hl
  refine z18 9 Try.call67 Try.func67 rfl (by decide) fun J => ?_
  simp (maxSteps := 4000000) only [go_sem, St.start, Try.ntmps67, Try.results67]
  repeat (first | refine nx ?_ | (refine z10 fun K hK => ?_; simp (maxSteps := 4000000) only [go_sem]; (repeat (first | (refine ⟨_, .lent (hf := h) (hd := rfl) (hr := rfl), ?_⟩; simp (maxSteps := 4000000) only [go_sem]) | (refine ⟨_, .given (hf := h) (hd := rfl) (ha := rfl), ?_⟩; simp (maxSteps := 4000000) only [go_sem]))); refine hK _ ?_; clear hK K))
  simp (maxSteps := 4000000) only [go_sem, z359]
theorem z1053 (xs : List Batch) (g : Nat) (caps : List DV) (q : Batch → Bool) (hq : ∀ s ∈ xs, Fn Try.prog g (.agg s.row :: caps) (.bool (q s))) (hl : xs.length < 2 ^ 62) : Fn Try.prog 104 [.sl (batRows xs), .fn g caps] (.i (idxFrom q xs 0)) := by
  refine z18 19 Try.call104 Try.func104 rfl (by decide) fun J => ?_
  simp (maxSteps := 4000000) only [go_sem, St.start, Try.ntmps104, Try.results104]
  repeat (first | refine nx ?_ | (refine z10 fun K hK => ?_; simp (maxSteps := 4000000) only [go_sem]; refine hK _ ?_; clear hK K))
  refine z15 (fun (i : Nat) => [(8, .d (.i i))]) (fun _ => []) (fun i => i ≤ xs.length ∧ idxFrom q xs 0 = idxFrom q (xs.drop i) i) (fun i => xs.length - i) 0 ?_ ⟨Nat.zero_le _, rfl⟩ ?_
  · simp (maxSteps := 4000000) only [go_sem]
    refine z13 [] ?_ ?_ rfl rfl <;> simp [lessT, lessM, lessB, AV.less]
  · intro i ⟨hi, hq0⟩
    simp (maxSteps := 4000000) only [go_sem]
    repeat (first | refine nx ?_ | (refine z10 fun K hK => ?_; simp (maxSteps := 4000000) only [go_sem]; refine hK _ ?_; clear hK K))
    refine z14 rfl (fun hb => ?_) (fun hb => ?_)
    · have hlt : i < xs.length := by simpa using hb
      have hw : IntKind.i64.wrap ((i : Int) + 1) = ((i + 1 : Nat) : Int) := by rw [z16 (by omega)]; simp
      obtain ⟨s, hs⟩ : ∃ s, xs[i]? = some s := ⟨_, List.getElem?_eq_getElem hlt⟩
      rw [z25 hs, idxFrom] at hq0
      repeat (first | refine nx ?_ | (refine z10 fun K hK => ?_; simp (maxSteps := 4000000) only [go_sem]; refine hK _ ?_; clear hK K))
      refine z10 fun K hK => ?_
      simp (maxSteps := 4000000) only [go_sem, hs, List.getElem?_map, z268 hs, Batch.row, hw]
      refine ⟨_, .lent (hf := hq s (List.mem_of_getElem? hs)) (hd := z49 _ _ _ _ rfl) (hr := rfl), ?_⟩
      simp (maxSteps := 4000000) only [go_sem]
      refine hK _ ?_
      clear hK K
      refine z14 rfl (fun hc => ?_) (fun hc => ?_)
      · rw [hc, if_pos rfl] at hq0
        repeat (first | refine nx ?_ | (refine z10 fun K hK => ?_; simp (maxSteps := 4000000) only [go_sem]; refine hK _ ?_; clear hK K))
        simp (maxSteps := 4000000) only [go_sem, hq0]
      · rw [hc] at hq0
        repeat (first | refine nx ?_ | (refine z10 fun K hK => ?_; simp (maxSteps := 4000000) only [go_sem, hw]; refine hK _ ?_; clear hK K))
        refine ⟨rfl, i + 1, ?_, ⟨hlt, hq0⟩, by omega⟩
        refine z13 [] ?_ ?_ rfl rfl <;> simp [lessT, lessM, lessB, AV.less]
    · have he : i = xs.length := by (have : ¬ i < xs.length := by simpa using hb); omega
      subst he
      repeat (first | refine nx ?_ | (refine z10 fun K hK => ?_; simp (maxSteps := 4000000) only [go_sem]; refine hK _ ?_; clear hK K))
      simp (maxSteps := 4000000) only [go_sem, hq0, List.drop_length, idxFrom]
theorem z1119 (xs : List Batch) (g : Nat) (caps : List DV) (q : Batch → Bool) (hq : ∀ s ∈ xs, Fn Try.prog g (.agg s.row :: caps) (.bool (q s))) (hl : xs.length < 2 ^ 62) : Fn Try.prog 91 [.sl (batRows xs), .fn g caps] (.bool (xs.any q)) := by
  refine z18 9 Try.call91 Try.func91 rfl (by decide) fun J => ?_
  simp (maxSteps := 4000000) only [go_sem, St.start, Try.ntmps91, Try.results91]
  repeat (first | refine nx ?_ | (refine z10 fun K hK => ?_; simp (maxSteps := 4000000) only [go_sem]; (repeat (first | (refine ⟨_, .lent (hf := z1053 xs g caps q hq hl) (hd := rfl) (hr := rfl), ?_⟩; simp (maxSteps := 4000000) only [go_sem]) | (refine ⟨_, .given (hf := z1053 xs g caps q hq hl) (hd := rfl) (ha := rfl), ?_⟩; simp (maxSteps := 4000000) only [go_sem]))); refine hK _ ?_; clear hK K))
  simp (maxSteps := 4000000) only [go_sem, z53]
theorem z1118 (s : Batch) (g : Nat) (caps : List DV) (b : Bool) (hq : Fn Try.prog g (.agg s.row :: caps) (.bool b)) : Fn Try.prog 92 [.agg s.row, .ptr [.fn g caps] 0] (.bool (!b)) := by
  refine z18 8 Try.call92 Try.func92 rfl (by decide) fun J => ?_
  simp (maxSteps := 4000000) only [go_sem, St.start, Try.ntmps92, Try.results92, Batch.row]
  repeat (first | refine nx ?_ | (refine z10 fun K hK => ?_; simp (maxSteps := 4000000) only [go_sem]; refine hK _ ?_; clear hK K))
  refine z10 fun K hK => ?_
  simp (maxSteps := 4000000) only [go_sem]
  refine ⟨_, .lent (hf := hq) (hd := z49 _ _ _ _ rfl) (hr := rfl), ?_⟩
  simp (maxSteps := 4000000) only [go_sem]
  refine hK _ ?_
  clear hK K
  repeat (first | refine nx ?_ | (refine z10 fun K hK => ?_; simp (maxSteps := 4000000) only [go_sem]; refine hK _ ?_; clear hK K))
  simp (maxSteps := 4000000) only [go_sem]
theorem z1134 (xs : List Batch) (g : Nat) (caps : List DV) (q : Batch → Bool) (hq : ∀ s ∈ xs, Fn Try.prog g (.agg s.row :: caps) (.bool (q s))) (hl : xs.length < 2 ^ 62) : Fn Try.prog 71 [.sl (batRows xs), .fn g caps] (.bool (xs.all q)) := by
  have h := z1119 xs 92 [.ptr [.fn g caps] 0] (fun s => !q s) (fun s hs => z1118 s g caps (q s) (hq s hs)) hl
  refine z18 9 Try.call71 Try.func71 rfl (by decide) fun J => ?_
  simp (maxSteps := 4000000) only [go_sem, St.start, Try.ntmps71, Try.results71]
  repeat (first | refine nx ?_ | (refine z10 fun K hK => ?_; simp (maxSteps := 4000000) only [go_sem]; (repeat (first | (refine ⟨_, .lent (hf := h) (hd := rfl) (hr := rfl), ?_⟩; simp (maxSteps := 4000000) only [go_sem]) | (refine ⟨_, .given (hf := h) (hd := rfl) (ha := rfl), ?_⟩; simp (maxSteps := 4000000) only [go_sem]))); refine hK _ ?_; clear hK K))
  simp (maxSteps := 4000000) only [go_sem, z359]
theorem z1052 (xs : List Dish) (g : Nat) (caps : List DV) (q : Dish → Bool) (hq : ∀ s ∈ xs, Fn Try.prog g (.agg s.row :: caps) (.bool (q s))) (hl : xs.length < 2 ^ 62) : Fn Try.prog 105 [.sl (dishRows xs), .fn g caps] (.i (idxFrom q xs 0)) := by
  refine z18 19 Try.call105 Try.func105 rfl (by decide) fun J => ?_
  simp (maxSteps := 4000000) only [go_sem, St.start, Try.ntmps105, Try.results105]
  repeat (first | refine nx ?_ | (refine z10 fun K hK => ?_; simp (maxSteps := 4000000) only [go_sem]; refine hK _ ?_; clear hK K))
  refine z15 (fun (i : Nat) => [(8, .d (.i i))]) (fun _ => []) (fun i => i ≤ xs.length ∧ idxFrom q xs 0 = idxFrom q (xs.drop i) i) (fun i => xs.length - i) 0 ?_ ⟨Nat.zero_le _, rfl⟩ ?_
  · simp (maxSteps := 4000000) only [go_sem]
    refine z13 [] ?_ ?_ rfl rfl <;> simp [lessT, lessM, lessB, AV.less]
  · intro i ⟨hi, hq0⟩
    simp (maxSteps := 4000000) only [go_sem]
    repeat (first | refine nx ?_ | (refine z10 fun K hK => ?_; simp (maxSteps := 4000000) only [go_sem]; refine hK _ ?_; clear hK K))
    refine z14 rfl (fun hb => ?_) (fun hb => ?_)
    · have hlt : i < xs.length := by simpa using hb
      have hw : IntKind.i64.wrap ((i : Int) + 1) = ((i + 1 : Nat) : Int) := by rw [z16 (by omega)]; simp
      obtain ⟨s, hs⟩ : ∃ s, xs[i]? = some s := ⟨_, List.getElem?_eq_getElem hlt⟩
      rw [z25 hs, idxFrom] at hq0
      repeat (first | refine nx ?_ | (refine z10 fun K hK => ?_; simp (maxSteps := 4000000) only [go_sem]; refine hK _ ?_; clear hK K))
      refine z10 fun K hK => ?_
      simp (maxSteps := 4000000) only [go_sem, hs, List.getElem?_map, z108 hs, Dish.row, hw]
      refine ⟨_, .lent (hf := hq s (List.mem_of_getElem? hs)) (hd := z49 _ _ _ _ rfl) (hr := rfl), ?_⟩
      simp (maxSteps := 4000000) only [go_sem]
      refine hK _ ?_
      clear hK K
      refine z14 rfl (fun hc => ?_) (fun hc => ?_)
      · rw [hc, if_pos rfl] at hq0
        repeat (first | refine nx ?_ | (refine z10 fun K hK => ?_; simp (maxSteps := 4000000) only [go_sem]; refine hK _ ?_; clear hK K))
        simp (maxSteps := 4000000) only [go_sem, hq0]
      · rw [hc] at hq0
        repeat (first | refine nx ?_ | (refine z10 fun K hK => ?_; simp (maxSteps := 4000000) only [go_sem, hw]; refine hK _ ?_; clear hK K))
        refine ⟨rfl, i + 1, ?_, ⟨hlt, hq0⟩, by omega⟩
        refine z13 [] ?_ ?_ rfl rfl <;> simp [lessT, lessM, lessB, AV.less]
    · have he : i = xs.length := by (have : ¬ i < xs.length := by simpa using hb); omega
      subst he
      repeat (first | refine nx ?_ | (refine z10 fun K hK => ?_; simp (maxSteps := 4000000) only [go_sem]; refine hK _ ?_; clear hK K))
      simp (maxSteps := 4000000) only [go_sem, hq0, List.drop_length, idxFrom]
theorem z1117 (xs : List Dish) (g : Nat) (caps : List DV) (q : Dish → Bool) (hq : ∀ s ∈ xs, Fn Try.prog g (.agg s.row :: caps) (.bool (q s))) (hl : xs.length < 2 ^ 62) : Fn Try.prog 93 [.sl (dishRows xs), .fn g caps] (.bool (xs.any q)) := by
  refine z18 9 Try.call93 Try.func93 rfl (by decide) fun J => ?_
  simp (maxSteps := 4000000) only [go_sem, St.start, Try.ntmps93, Try.results93]
  repeat (first | refine nx ?_ | (refine z10 fun K hK => ?_; simp (maxSteps := 4000000) only [go_sem]; (repeat (first | (refine ⟨_, .lent (hf := z1052 xs g caps q hq hl) (hd := rfl) (hr := rfl), ?_⟩; simp (maxSteps := 4000000) only [go_sem]) | (refine ⟨_, .given (hf := z1052 xs g caps q hq hl) (hd := rfl) (ha := rfl), ?_⟩; simp (maxSteps := 4000000) only [go_sem]))); refine hK _ ?_; clear hK K))
  simp (maxSteps := 4000000) only [go_sem, z53]
theorem z1116 (s : Dish) (g : Nat) (caps : List DV) (b : Bool) (hq : Fn Try.prog g (.agg s.row :: caps) (.bool b)) : Fn Try.prog 94 [.agg s.row, .ptr [.fn g caps] 0] (.bool (!b)) := by
  refine z18 8 Try.call94 Try.func94 rfl (by decide) fun J => ?_
  simp (maxSteps := 4000000) only [go_sem, St.start, Try.ntmps94, Try.results94, Dish.row]
  repeat (first | refine nx ?_ | (refine z10 fun K hK => ?_; simp (maxSteps := 4000000) only [go_sem]; refine hK _ ?_; clear hK K))
  refine z10 fun K hK => ?_
  simp (maxSteps := 4000000) only [go_sem]
  refine ⟨_, .lent (hf := hq) (hd := z49 _ _ _ _ rfl) (hr := rfl), ?_⟩
  simp (maxSteps := 4000000) only [go_sem]
  refine hK _ ?_
  clear hK K
  repeat (first | refine nx ?_ | (refine z10 fun K hK => ?_; simp (maxSteps := 4000000) only [go_sem]; refine hK _ ?_; clear hK K))
  simp (maxSteps := 4000000) only [go_sem]
theorem z1133 (xs : List Dish) (g : Nat) (caps : List DV) (q : Dish → Bool) (hq : ∀ s ∈ xs, Fn Try.prog g (.agg s.row :: caps) (.bool (q s))) (hl : xs.length < 2 ^ 62) : Fn Try.prog 72 [.sl (dishRows xs), .fn g caps] (.bool (xs.all q)) := by
  have h := z1117 xs 94 [.ptr [.fn g caps] 0] (fun s => !q s) (fun s hs => z1116 s g caps (q s) (hq s hs)) hl
  refine z18 9 Try.call72 Try.func72 rfl (by decide) fun J => ?_
  simp (maxSteps := 4000000) only [go_sem, St.start, Try.ntmps72, Try.results72]
  repeat (first | refine nx ?_ | (refine z10 fun K hK => ?_; simp (maxSteps := 4000000) only [go_sem]; (repeat (first | (refine ⟨_, .lent (hf := h) (hd := rfl) (hr := rfl), ?_⟩; simp (maxSteps := 4000000) only [go_sem]) | (refine ⟨_, .given (hf := h) (hd := rfl) (ha := rfl), ?_⟩; simp (maxSteps := 4000000) only [go_sem]))); refine hK _ ?_; clear hK K))
  simp (maxSteps := 4000000) only [go_sem, z359]
theorem z1054 (xs : List Diners) (g : Nat) (caps : List DV) (q : Diners → Bool) (hq : ∀ s ∈ xs, Fn Try.prog g (.agg s.row :: caps) (.bool (q s))) (hl : xs.length < 2 ^ 62) : Fn Try.prog 103 [.sl (dinRows xs), .fn g caps] (.i (idxFrom q xs 0)) := by
  refine z18 19 Try.call103 Try.func103 rfl (by decide) fun J => ?_
  simp (maxSteps := 4000000) only [go_sem, St.start, Try.ntmps103, Try.results103]
  repeat (first | refine nx ?_ | (refine z10 fun K hK => ?_; simp (maxSteps := 4000000) only [go_sem]; refine hK _ ?_; clear hK K))
  refine z15 (fun (i : Nat) => [(8, .d (.i i))]) (fun _ => []) (fun i => i ≤ xs.length ∧ idxFrom q xs 0 = idxFrom q (xs.drop i) i) (fun i => xs.length - i) 0 ?_ ⟨Nat.zero_le _, rfl⟩ ?_
  · simp (maxSteps := 4000000) only [go_sem]
    refine z13 [] ?_ ?_ rfl rfl <;> simp [lessT, lessM, lessB, AV.less]
  · intro i ⟨hi, hq0⟩
    simp (maxSteps := 4000000) only [go_sem]
    repeat (first | refine nx ?_ | (refine z10 fun K hK => ?_; simp (maxSteps := 4000000) only [go_sem]; refine hK _ ?_; clear hK K))
    refine z14 rfl (fun hb => ?_) (fun hb => ?_)
    · have hlt : i < xs.length := by simpa using hb
      have hw : IntKind.i64.wrap ((i : Int) + 1) = ((i + 1 : Nat) : Int) := by rw [z16 (by omega)]; simp
      obtain ⟨s, hs⟩ : ∃ s, xs[i]? = some s := ⟨_, List.getElem?_eq_getElem hlt⟩
      rw [z25 hs, idxFrom] at hq0
      repeat (first | refine nx ?_ | (refine z10 fun K hK => ?_; simp (maxSteps := 4000000) only [go_sem]; refine hK _ ?_; clear hK K))
      refine z10 fun K hK => ?_
      simp (maxSteps := 4000000) only [go_sem, hs, List.getElem?_map, z68 hs, Diners.row, hw]
      refine ⟨_, .lent (hf := hq s (List.mem_of_getElem? hs)) (hd := z49 _ _ _ _ rfl) (hr := rfl), ?_⟩
      simp (maxSteps := 4000000) only [go_sem]
      refine hK _ ?_
      clear hK K
      refine z14 rfl (fun hc => ?_) (fun hc => ?_)
      · rw [hc, if_pos rfl] at hq0
        repeat (first | refine nx ?_ | (refine z10 fun K hK => ?_; simp (maxSteps := 4000000) only [go_sem]; refine hK _ ?_; clear hK K))
        simp (maxSteps := 4000000) only [go_sem, hq0]
      · rw [hc] at hq0
        repeat (first | refine nx ?_ | (refine z10 fun K hK => ?_; simp (maxSteps := 4000000) only [go_sem, hw]; refine hK _ ?_; clear hK K))
        refine ⟨rfl, i + 1, ?_, ⟨hlt, hq0⟩, by omega⟩
        refine z13 [] ?_ ?_ rfl rfl <;> simp [lessT, lessM, lessB, AV.less]
    · have he : i = xs.length := by (have : ¬ i < xs.length := by simpa using hb); omega
      subst he
      repeat (first | refine nx ?_ | (refine z10 fun K hK => ?_; simp (maxSteps := 4000000) only [go_sem]; refine hK _ ?_; clear hK K))
      simp (maxSteps := 4000000) only [go_sem, hq0, List.drop_length, idxFrom]
theorem z1121 (xs : List Diners) (g : Nat) (caps : List DV) (q : Diners → Bool) (hq : ∀ s ∈ xs, Fn Try.prog g (.agg s.row :: caps) (.bool (q s))) (hl : xs.length < 2 ^ 62) : Fn Try.prog 89 [.sl (dinRows xs), .fn g caps] (.bool (xs.any q)) := by
  refine z18 9 Try.call89 Try.func89 rfl (by decide) fun J => ?_
  simp (maxSteps := 4000000) only [go_sem, St.start, Try.ntmps89, Try.results89]
  repeat (first | refine nx ?_ | (refine z10 fun K hK => ?_; simp (maxSteps := 4000000) only [go_sem]; (repeat (first | (refine ⟨_, .lent (hf := z1054 xs g caps q hq hl) (hd := rfl) (hr := rfl), ?_⟩; simp (maxSteps := 4000000) only [go_sem]) | (refine ⟨_, .given (hf := z1054 xs g caps q hq hl) (hd := rfl) (ha := rfl), ?_⟩; simp (maxSteps := 4000000) only [go_sem]))); refine hK _ ?_; clear hK K))
  simp (maxSteps := 4000000) only [go_sem, z53]
theorem z1120 (s : Diners) (g : Nat) (caps : List DV) (b : Bool) (hq : Fn Try.prog g (.agg s.row :: caps) (.bool b)) : Fn Try.prog 90 [.agg s.row, .ptr [.fn g caps] 0] (.bool (!b)) := by
  refine z18 8 Try.call90 Try.func90 rfl (by decide) fun J => ?_
  simp (maxSteps := 4000000) only [go_sem, St.start, Try.ntmps90, Try.results90, Diners.row]
  repeat (first | refine nx ?_ | (refine z10 fun K hK => ?_; simp (maxSteps := 4000000) only [go_sem]; refine hK _ ?_; clear hK K))
  refine z10 fun K hK => ?_
  simp (maxSteps := 4000000) only [go_sem]
  refine ⟨_, .lent (hf := hq) (hd := z49 _ _ _ _ rfl) (hr := rfl), ?_⟩
  simp (maxSteps := 4000000) only [go_sem]
  refine hK _ ?_
  clear hK K
  repeat (first | refine nx ?_ | (refine z10 fun K hK => ?_; simp (maxSteps := 4000000) only [go_sem]; refine hK _ ?_; clear hK K))
  simp (maxSteps := 4000000) only [go_sem]
theorem z1135 (xs : List Diners) (g : Nat) (caps : List DV) (q : Diners → Bool) (hq : ∀ s ∈ xs, Fn Try.prog g (.agg s.row :: caps) (.bool (q s))) (hl : xs.length < 2 ^ 62) : Fn Try.prog 70 [.sl (dinRows xs), .fn g caps] (.bool (xs.all q)) := by
  have h := z1121 xs 90 [.ptr [.fn g caps] 0] (fun s => !q s) (fun s hs => z1120 s g caps (q s) (hq s hs)) hl
  refine z18 9 Try.call70 Try.func70 rfl (by decide) fun J => ?_
  simp (maxSteps := 4000000) only [go_sem, St.start, Try.ntmps70, Try.results70]
  repeat (first | refine nx ?_ | (refine z10 fun K hK => ?_; simp (maxSteps := 4000000) only [go_sem]; (repeat (first | (refine ⟨_, .lent (hf := h) (hd := rfl) (hr := rfl), ?_⟩; simp (maxSteps := 4000000) only [go_sem]) | (refine ⟨_, .given (hf := h) (hd := rfl) (ha := rfl), ?_⟩; simp (maxSteps := 4000000) only [go_sem]))); refine hK _ ?_; clear hK K))
  simp (maxSteps := 4000000) only [go_sem, z359]
theorem z1051 (xs : List (List Diners)) (g : Nat) (caps : List DV) (q : (List Diners) → Bool) (hq : ∀ s ∈ xs, Fn Try.prog g (.sl (dinRows s) :: caps) (.bool (q s))) (hl : xs.length < 2 ^ 62) : Fn Try.prog 106 [.sl (dayRows xs), .fn g caps] (.i (idxFrom q xs 0)) := by
  refine z18 19 Try.call106 Try.func106 rfl (by decide) fun J => ?_
  simp (maxSteps := 4000000) only [go_sem, St.start, Try.ntmps106, Try.results106]
  repeat (first | refine nx ?_ | (refine z10 fun K hK => ?_; simp (maxSteps := 4000000) only [go_sem]; refine hK _ ?_; clear hK K))
  refine z15 (fun (i : Nat) => [(8, .d (.i i))]) (fun _ => []) (fun i => i ≤ xs.length ∧ idxFrom q xs 0 = idxFrom q (xs.drop i) i) (fun i => xs.length - i) 0 ?_ ⟨Nat.zero_le _, rfl⟩ ?_
  · simp (maxSteps := 4000000) only [go_sem]
    refine z13 [] ?_ ?_ rfl rfl <;> simp [lessT, lessM, lessB, AV.less]
  · intro i ⟨hi, hq0⟩
    simp (maxSteps := 4000000) only [go_sem]
    repeat (first | refine nx ?_ | (refine z10 fun K hK => ?_; simp (maxSteps := 4000000) only [go_sem]; refine hK _ ?_; clear hK K))
    refine z14 rfl (fun hb => ?_) (fun hb => ?_)
    · have hlt : i < xs.length := by simpa using hb
      have hw : IntKind.i64.wrap ((i : Int) + 1) = ((i + 1 : Nat) : Int) := by rw [z16 (by omega)]; simp
      obtain ⟨s, hs⟩ : ∃ s, xs[i]? = some s := ⟨_, List.getElem?_eq_getElem hlt⟩
      rw [z25 hs, idxFrom] at hq0
      repeat (first | refine nx ?_ | (refine z10 fun K hK => ?_; simp (maxSteps := 4000000) only [go_sem]; refine hK _ ?_; clear hK K))
      refine z10 fun K hK => ?_
      simp (maxSteps := 4000000) only [go_sem, hs, List.getElem?_map, z69 hs, hw]
      refine ⟨_, .lent (hf := hq s (List.mem_of_getElem? hs)) (hd := z49 _ _ _ _ rfl) (hr := rfl), ?_⟩
      simp (maxSteps := 4000000) only [go_sem]
      refine hK _ ?_
      clear hK K
      refine z14 rfl (fun hc => ?_) (fun hc => ?_)
      · rw [hc, if_pos rfl] at hq0
        repeat (first | refine nx ?_ | (refine z10 fun K hK => ?_; simp (maxSteps := 4000000) only [go_sem]; refine hK _ ?_; clear hK K))
        simp (maxSteps := 4000000) only [go_sem, hq0]
      · rw [hc] at hq0
        repeat (first | refine nx ?_ | (refine z10 fun K hK => ?_; simp (maxSteps := 4000000) only [go_sem, hw]; refine hK _ ?_; clear hK K))
        refine ⟨rfl, i + 1, ?_, ⟨hlt, hq0⟩, by omega⟩
        refine z13 [] ?_ ?_ rfl rfl <;> simp [lessT, lessM, lessB, AV.less]
    · have he : i = xs.length := by (have : ¬ i < xs.length := by simpa using hb); omega
      subst he
      repeat (first | refine nx ?_ | (refine z10 fun K hK => ?_; simp (maxSteps := 4000000) only [go_sem]; refine hK _ ?_; clear hK K))
      simp (maxSteps := 4000000) only [go_sem, hq0, List.drop_length, idxFrom]
theorem z1115 (xs : List (List Diners)) (g : Nat) (caps : List DV) (q : (List Diners) → Bool) (hq : ∀ s ∈ xs, Fn Try.prog g (.sl (dinRows s) :: caps) (.bool (q s))) (hl : xs.length < 2 ^ 62) : Fn Try.prog 95 [.sl (dayRows xs), .fn g caps] (.bool (xs.any q)) := by
  refine z18 9 Try.call95 Try.func95 rfl (by decide) fun J => ?_
  simp (maxSteps := 4000000) only [go_sem, St.start, Try.ntmps95, Try.results95]
  repeat (first | refine nx ?_ | (refine z10 fun K hK => ?_; simp (maxSteps := 4000000) only [go_sem]; (repeat (first | (refine ⟨_, .lent (hf := z1051 xs g caps q hq hl) (hd := rfl) (hr := rfl), ?_⟩; simp (maxSteps := 4000000) only [go_sem]) | (refine ⟨_, .given (hf := z1051 xs g caps q hq hl) (hd := rfl) (ha := rfl), ?_⟩; simp (maxSteps := 4000000) only [go_sem]))); refine hK _ ?_; clear hK K))
  simp (maxSteps := 4000000) only [go_sem, z53]
theorem z1114 (s : (List Diners)) (g : Nat) (caps : List DV) (b : Bool) (hq : Fn Try.prog g (.sl (dinRows s) :: caps) (.bool b)) : Fn Try.prog 96 [.sl (dinRows s), .ptr [.fn g caps] 0] (.bool (!b)) := by
  refine z18 8 Try.call96 Try.func96 rfl (by decide) fun J => ?_
  simp (maxSteps := 4000000) only [go_sem, St.start, Try.ntmps96, Try.results96]
  repeat (first | refine nx ?_ | (refine z10 fun K hK => ?_; simp (maxSteps := 4000000) only [go_sem]; refine hK _ ?_; clear hK K))
  refine z10 fun K hK => ?_
  simp (maxSteps := 4000000) only [go_sem]
  refine ⟨_, .lent (hf := hq) (hd := z49 _ _ _ _ rfl) (hr := rfl), ?_⟩
  simp (maxSteps := 4000000) only [go_sem]
  refine hK _ ?_
  clear hK K
  repeat (first | refine nx ?_ | (refine z10 fun K hK => ?_; simp (maxSteps := 4000000) only [go_sem]; refine hK _ ?_; clear hK K))
  simp (maxSteps := 4000000) only [go_sem]
theorem z1132 (xs : List (List Diners)) (g : Nat) (caps : List DV) (q : (List Diners) → Bool) (hq : ∀ s ∈ xs, Fn Try.prog g (.sl (dinRows s) :: caps) (.bool (q s))) (hl : xs.length < 2 ^ 62) : Fn Try.prog 73 [.sl (dayRows xs), .fn g caps] (.bool (xs.all q)) := by
  have h := z1115 xs 96 [.ptr [.fn g caps] 0] (fun s => !q s) (fun s hs => z1114 s g caps (q s) (hq s hs)) hl
  refine z18 9 Try.call73 Try.func73 rfl (by decide) fun J => ?_
  simp (maxSteps := 4000000) only [go_sem, St.start, Try.ntmps73, Try.results73]
  repeat (first | refine nx ?_ | (refine z10 fun K hK => ?_; simp (maxSteps := 4000000) only [go_sem]; (repeat (first | (refine ⟨_, .lent (hf := h) (hd := rfl) (hr := rfl), ?_⟩; simp (maxSteps := 4000000) only [go_sem]) | (refine ⟨_, .given (hf := h) (hd := rfl) (ha := rfl), ?_⟩; simp (maxSteps := 4000000) only [go_sem]))); refine hK _ ?_; clear hK K))
  simp (maxSteps := 4000000) only [go_sem, z359]
end Go.Ab
namespace Go.Ab
open Go.RowKit Go.Proofs
set_option maxHeartbeats 8000000
set_option maxRecDepth 20000
attribute [local irreducible] WalkL Walk
def setB (n : Int) : Bool := withinB n 0 255
def batchB (goods : Int) (b : Batch) : Bool := withinB b.good 0 (goods - 1) && (withinB b.amount 0 1000000 && withinB b.last 0 30)
def needB (n : Int) : Bool := withinB n 0 5000
def dishB (goods : Int) (d : Dish) : Bool := ((d.needs.length : Int) == goods) && d.needs.all needB
def groupB (g : Diners) : Bool := setB g.no && (decide (0 ≤ g.count.lo) && (decide (g.count.lo ≤ g.count.hi) && decide (g.count.hi ≤ 100)))
def dayB (l : List Diners) : Bool := decide ((l.length : Int) ≤ 3) && l.all groupB
def badKit (k : Kitchen) : Bool := !withinB (k.allerg.length : Int) 1 6 || (!k.allerg.all setB || (decide ((k.batches.length : Int) > 10) || (!k.batches.all (batchB k.allerg.length) || (!withinB (k.dishes.length : Int) 1 5 || (!k.dishes.all (dishB k.allerg.length) || (!withinB (k.days.length : Int) 1 6 || !k.days.all dayB))))))
def kitE (k : Kitchen) : Int := if badKit k then 70 else 0
theorem z942 (n lo hi : Int) : Fn Try.prog 54 [.i n, .i lo, .i hi] (.bool (withinB n lo hi)) := by
  unfold withinB
  refine z18 15 Try.call54 Try.func54 rfl (by decide) fun J => ?_
  simp (maxSteps := 4000000) only [go_sem, St.start, Try.ntmps54, Try.results54]
  cases q : decide (lo ≤ n)
  · repeat (first | refine nx ?_ | (refine z10 fun K hK => ?_; simp (maxSteps := 4000000) only [go_sem, q]; refine hK _ ?_; clear hK K))
    simp (maxSteps := 4000000) only [go_sem, Bool.false_and]
  · repeat (first | refine nx ?_ | (refine z10 fun K hK => ?_; simp (maxSteps := 4000000) only [go_sem, q]; refine hK _ ?_; clear hK K))
    simp (maxSteps := 4000000) only [go_sem, Bool.true_and]
theorem z1100 (n : Int) : Fn Try.prog 62 [.i n] (.bool (setB n)) := by
  have h := z942 n 0 255
  refine z18 5 Try.call62 Try.func62 rfl (by decide) fun J => ?_
  simp (maxSteps := 4000000) only [go_sem, St.start, Try.ntmps62, Try.results62]
  repeat (first | refine nx ?_ | (refine z10 fun K hK => ?_; simp (maxSteps := 4000000) only [go_sem]; (repeat (first | (refine ⟨_, .lent (hf := h) (hd := rfl) (hr := rfl), ?_⟩; simp (maxSteps := 4000000) only [go_sem]) | (refine ⟨_, .given (hf := h) (hd := rfl) (ha := rfl), ?_⟩; simp (maxSteps := 4000000) only [go_sem]))); refine hK _ ?_; clear hK K))
  simp (maxSteps := 4000000) only [go_sem, setB]
theorem z1139 (n : Int) : Fn Try.prog 65 [.i n] (.bool (needB n)) := by
  have h := z942 n 0 5000
  refine z18 5 Try.call65 Try.func65 rfl (by decide) fun J => ?_
  simp (maxSteps := 4000000) only [go_sem, St.start, Try.ntmps65, Try.results65]
  repeat (first | refine nx ?_ | (refine z10 fun K hK => ?_; simp (maxSteps := 4000000) only [go_sem]; (repeat (first | (refine ⟨_, .lent (hf := h) (hd := rfl) (hr := rfl), ?_⟩; simp (maxSteps := 4000000) only [go_sem]) | (refine ⟨_, .given (hf := h) (hd := rfl) (ha := rfl), ?_⟩; simp (maxSteps := 4000000) only [go_sem]))); refine hK _ ?_; clear hK K))
  simp (maxSteps := 4000000) only [go_sem, needB]
theorem z1140 (goods : Int) (b : Batch) (hg : 0 ≤ goods ∧ goods < 2 ^ 30) : Fn Try.prog 64 [.agg b.row, .ptr [.i goods] 0] (.bool (batchB goods b)) := by
  have h1 := z942 b.good 0 (goods - 1)
  have h2 := z942 b.amount 0 1000000
  have h3 := z942 b.last 0 30
  have w : IntKind.i64.wrap (goods - 1) = goods - 1 := z16 (by omega)
  unfold batchB
  obtain ⟨b1, e1⟩ : ∃ x, x = withinB b.good 0 (goods - 1) := ⟨_, rfl⟩
  obtain ⟨b2, e2⟩ : ∃ x, x = withinB b.amount 0 1000000 := ⟨_, rfl⟩
  obtain ⟨b3, e3⟩ : ∃ x, x = withinB b.last 0 30 := ⟨_, rfl⟩
  rw [← e1] at h1 ⊢
  rw [← e2] at h2 ⊢
  rw [← e3] at h3 ⊢
  refine z18 19 Try.call64 Try.func64 rfl (by decide) fun J => ?_
  simp (maxSteps := 4000000) only [go_sem, St.start, Try.ntmps64, Try.results64, Batch.row]
  cases b1 <;> cases b2
  all_goals
    repeat (first | refine nx ?_ | (refine z10 fun K hK => ?_; simp (maxSteps := 4000000) only [go_sem, w]; (repeat (first | (refine ⟨_, .lent (hf := h1) (hd := rfl) (hr := rfl), ?_⟩; simp (maxSteps := 4000000) only [go_sem, w]) | (refine ⟨_, .lent (hf := h2) (hd := rfl) (hr := rfl), ?_⟩; simp (maxSteps := 4000000) only [go_sem, w]) | (refine ⟨_, .lent (hf := h3) (hd := rfl) (hr := rfl), ?_⟩; simp (maxSteps := 4000000) only [go_sem, w]) | (refine ⟨_, .given (hf := h1) (hd := rfl) (ha := rfl), ?_⟩; simp (maxSteps := 4000000) only [go_sem, w]) | (refine ⟨_, .given (hf := h2) (hd := rfl) (ha := rfl), ?_⟩; simp (maxSteps := 4000000) only [go_sem, w]) | (refine ⟨_, .given (hf := h3) (hd := rfl) (ha := rfl), ?_⟩; simp (maxSteps := 4000000) only [go_sem, w]))); refine hK _ ?_; clear hK K))
    simp (maxSteps := 4000000) only [go_sem, Bool.false_and, Bool.true_and]
theorem z1138 (goods : Int) (d : Dish) (hd : d.needs.length < 2 ^ 30) : Fn Try.prog 66 [.agg d.row, .ptr [.i goods] 0, .ptr [.fn 65 []] 0] (.bool (dishB goods d)) := by
  have h := z1098 d.needs 65 [] needB (fun n _ => z1139 n) (by omega)
  unfold dishB
  obtain ⟨b1, e1⟩ : ∃ x, ((d.needs.length : Int) == goods) = x := ⟨_, rfl⟩
  rw [e1]
  refine z18 16 Try.call66 Try.func66 rfl (by decide) fun J => ?_
  simp (maxSteps := 4000000) only [go_sem, St.start, Try.ntmps66, Try.results66, Dish.row]
  cases b1
  all_goals
    repeat (first | refine nx ?_ | (refine z10 fun K hK => ?_; simp (maxSteps := 4000000) only [go_sem, e1]; (repeat (first | (refine ⟨_, .lent (hf := h) (hd := rfl) (hr := rfl), ?_⟩; simp (maxSteps := 4000000) only [go_sem, e1]) | (refine ⟨_, .given (hf := h) (hd := rfl) (ha := rfl), ?_⟩; simp (maxSteps := 4000000) only [go_sem, e1]))); refine hK _ ?_; clear hK K))
    simp (maxSteps := 4000000) only [go_sem, Bool.false_and, Bool.true_and]
theorem z1137 (g : Diners) : Fn Try.prog 68 [.agg g.row] (.bool (groupB g)) := by
  have h := z1100 g.no
  unfold groupB
  obtain ⟨b1, e1⟩ : ∃ x, x = setB g.no := ⟨_, rfl⟩
  obtain ⟨b2, e2⟩ : ∃ x, decide (0 ≤ g.count.lo) = x := ⟨_, rfl⟩
  obtain ⟨b3, e3⟩ : ∃ x, decide (g.count.lo ≤ g.count.hi) = x := ⟨_, rfl⟩
  rw [← e1] at h ⊢
  rw [e2, e3]
  refine z18 27 Try.call68 Try.func68 rfl (by decide) fun J => ?_
  simp (maxSteps := 4000000) only [go_sem, St.start, Try.ntmps68, Try.results68, Diners.row]
  cases b1 <;> cases b2 <;> cases b3
  all_goals
    repeat (first | refine nx ?_ | (refine z10 fun K hK => ?_; simp (maxSteps := 4000000) only [go_sem, e2, e3]; (repeat (first | (refine ⟨_, .lent (hf := h) (hd := rfl) (hr := rfl), ?_⟩; simp (maxSteps := 4000000) only [go_sem, e2, e3]) | (refine ⟨_, .given (hf := h) (hd := rfl) (ha := rfl), ?_⟩; simp (maxSteps := 4000000) only [go_sem, e2, e3]))); refine hK _ ?_; clear hK K))
    simp (maxSteps := 4000000) only [go_sem, Bool.false_and, Bool.true_and]
theorem z1136 (l : List Diners) (hl : l.length < 2 ^ 30) : Fn Try.prog 69 [.sl (dinRows l), .ptr [.fn 68 []] 0] (.bool (dayB l)) := by
  have h := z1135 l 68 [] groupB (fun g _ => z1137 g) (by omega)
  unfold dayB
  obtain ⟨b1, e1⟩ : ∃ x, decide ((l.length : Int) ≤ 3) = x := ⟨_, rfl⟩
  rw [e1]
  refine z18 12 Try.call69 Try.func69 rfl (by decide) fun J => ?_
  simp (maxSteps := 4000000) only [go_sem, St.start, Try.ntmps69, Try.results69]
  cases b1
  all_goals
    repeat (first | refine nx ?_ | (refine z10 fun K hK => ?_; simp (maxSteps := 4000000) only [go_sem, e1]; (repeat (first | (refine ⟨_, .lent (hf := h) (hd := rfl) (hr := rfl), ?_⟩; simp (maxSteps := 4000000) only [go_sem, e1]) | (refine ⟨_, .given (hf := h) (hd := rfl) (ha := rfl), ?_⟩; simp (maxSteps := 4000000) only [go_sem, e1]))); refine hK _ ?_; clear hK K))
    simp (maxSteps := 4000000) only [go_sem, Bool.false_and, Bool.true_and]
theorem z1103 (k : Kitchen) (hs : KitSmall k) : Fn Try.prog 35 [.agg k.cells] (.i (kitE k)) := by
  have a1 := hs.allerg
  have h1 := z942 (k.allerg.length : Int) 1 6
  have h2 := z1098 k.allerg 62 [] setB (fun n _ => z1100 n) (by omega)
  have h4 := z1134 k.batches 64 [.ptr [.i (k.allerg.length : Int)] 0] (batchB k.allerg.length) (fun b _ => z1140 _ b (by omega)) (by have := hs.batches; omega)
  have h5 := z942 (k.dishes.length : Int) 1 5
  have h6 := z1133 k.dishes 66 [.ptr [.i (k.allerg.length : Int)] 0, .ptr [.fn 65 []] 0] (dishB k.allerg.length) (fun d hd => z1138 _ d (hs.needs d hd)) (by have := hs.dishes; omega)
  have h7 := z942 (k.days.length : Int) 1 6
  have h8 := z1132 k.days 69 [.ptr [.fn 68 []] 0] dayB (fun d hd => z1136 d (hs.groups d hd)) (by have := hs.days; omega)
  unfold kitE
  refine z18 65 Try.call35 Try.func35 rfl (by decide) fun J => ?_
  simp (maxSteps := 4000000) only [go_sem, St.start, Try.ntmps35, Try.results35, Kitchen.cells]
  repeat (first | refine nx ?_ | (refine z10 fun K hK => ?_; simp (maxSteps := 4000000) only [go_sem]; refine hK _ ?_; clear hK K))
  refine z137 [(64, .d (.bool (badKit k)))] [] ?_ ?_
  · refine z10 fun K hK => ?_
    simp (maxSteps := 4000000) only [go_sem]
    refine ⟨_, .lent (hf := h1) (hd := rfl) (hr := rfl), ?_⟩
    simp (maxSteps := 4000000) only [go_sem]
    by_cases ho0 : (!withinB (k.allerg.length : Int) 1 6) = true
    · simp (maxSteps := 4000000) only [go_sem, ho0]
      refine hK _ ?_
      clear hK K
      refine z32 ?_
      refine z24 ?_
      refine ⟨rfl, ?_⟩
      rw [show (badKit k) = (true) from by simp [badKit, ho0]]
      simp (maxSteps := 4000000) only [go_sem]
      refine z13 [] ?_ ?_ rfl rfl <;> simp [lessT, lessM, lessB, AV.less]
    · simp (maxSteps := 4000000) only [go_sem, ho0]
      refine ⟨_, .lent (hf := h2) (hd := rfl) (hr := rfl), ?_⟩
      simp (maxSteps := 4000000) only [go_sem, ho0]
      by_cases ho1 : (!k.allerg.all setB) = true
      · simp (maxSteps := 4000000) only [go_sem, ho0, ho1]
        refine hK _ ?_
        clear hK K
        refine z32 ?_
        refine z24 ?_
        refine ⟨rfl, ?_⟩
        rw [show (badKit k) = (true) from by simp [badKit, ho0, ho1]]
        simp (maxSteps := 4000000) only [go_sem]
        refine z13 [] ?_ ?_ rfl rfl <;> simp [lessT, lessM, lessB, AV.less]
      · simp (maxSteps := 4000000) only [go_sem, ho0, ho1]
        by_cases ho2 : (decide ((k.batches.length : Int) > 10)) = true
        · simp (maxSteps := 4000000) only [go_sem, ho0, ho1, ho2]
          refine hK _ ?_
          clear hK K
          refine z32 ?_
          refine z24 ?_
          refine ⟨rfl, ?_⟩
          rw [show (badKit k) = (true) from by simp [badKit, ho0, ho1, ho2]]
          simp (maxSteps := 4000000) only [go_sem]
          refine z13 [] ?_ ?_ rfl rfl <;> simp [lessT, lessM, lessB, AV.less]
        · simp (maxSteps := 4000000) only [go_sem, ho0, ho1, ho2]
          refine ⟨_, .lent (hf := h4) (hd := rfl) (hr := rfl), ?_⟩
          simp (maxSteps := 4000000) only [go_sem, ho0, ho1, ho2]
          by_cases ho3 : (!k.batches.all (batchB k.allerg.length)) = true
          · simp (maxSteps := 4000000) only [go_sem, ho0, ho1, ho2, ho3]
            refine hK _ ?_
            clear hK K
            refine z32 ?_
            refine z24 ?_
            refine ⟨rfl, ?_⟩
            rw [show (badKit k) = (true) from by simp [badKit, ho0, ho1, ho2, ho3]]
            simp (maxSteps := 4000000) only [go_sem]
            refine z13 [] ?_ ?_ rfl rfl <;> simp [lessT, lessM, lessB, AV.less]
          · simp (maxSteps := 4000000) only [go_sem, ho0, ho1, ho2, ho3]
            refine ⟨_, .lent (hf := h5) (hd := rfl) (hr := rfl), ?_⟩
            simp (maxSteps := 4000000) only [go_sem, ho0, ho1, ho2, ho3]
            by_cases ho4 : (!withinB (k.dishes.length : Int) 1 5) = true
            · simp (maxSteps := 4000000) only [go_sem, ho0, ho1, ho2, ho3, ho4]
              refine hK _ ?_
              clear hK K
              refine z32 ?_
              refine z24 ?_
              refine ⟨rfl, ?_⟩
              rw [show (badKit k) = (true) from by simp [badKit, ho0, ho1, ho2, ho3, ho4]]
              simp (maxSteps := 4000000) only [go_sem]
              refine z13 [] ?_ ?_ rfl rfl <;> simp [lessT, lessM, lessB, AV.less]
            · simp (maxSteps := 4000000) only [go_sem, ho0, ho1, ho2, ho3, ho4]
              refine ⟨_, .lent (hf := h6) (hd := rfl) (hr := rfl), ?_⟩
              simp (maxSteps := 4000000) only [go_sem, ho0, ho1, ho2, ho3, ho4]
              by_cases ho5 : (!k.dishes.all (dishB k.allerg.length)) = true
              · simp (maxSteps := 4000000) only [go_sem, ho0, ho1, ho2, ho3, ho4, ho5]
                refine hK _ ?_
                clear hK K
                refine z32 ?_
                refine z24 ?_
                refine ⟨rfl, ?_⟩
                rw [show (badKit k) = (true) from by simp [badKit, ho0, ho1, ho2, ho3, ho4, ho5]]
                simp (maxSteps := 4000000) only [go_sem]
                refine z13 [] ?_ ?_ rfl rfl <;> simp [lessT, lessM, lessB, AV.less]
              · simp (maxSteps := 4000000) only [go_sem, ho0, ho1, ho2, ho3, ho4, ho5]
                refine ⟨_, .lent (hf := h7) (hd := rfl) (hr := rfl), ?_⟩
                simp (maxSteps := 4000000) only [go_sem, ho0, ho1, ho2, ho3, ho4, ho5]
                by_cases ho6 : (!withinB (k.days.length : Int) 1 6) = true
                · simp (maxSteps := 4000000) only [go_sem, ho0, ho1, ho2, ho3, ho4, ho5, ho6]
                  refine hK _ ?_
                  clear hK K
                  refine z32 ?_
                  refine z24 ?_
                  refine ⟨rfl, ?_⟩
                  rw [show (badKit k) = (true) from by simp [badKit, ho0, ho1, ho2, ho3, ho4, ho5, ho6]]
                  simp (maxSteps := 4000000) only [go_sem]
                  refine z13 [] ?_ ?_ rfl rfl <;> simp [lessT, lessM, lessB, AV.less]
                · simp (maxSteps := 4000000) only [go_sem, ho0, ho1, ho2, ho3, ho4, ho5, ho6]
                  refine ⟨_, .lent (hf := h8) (hd := rfl) (hr := rfl), ?_⟩
                  simp (maxSteps := 4000000) only [go_sem, ho0, ho1, ho2, ho3, ho4, ho5, ho6]
                  refine hK _ ?_
                  clear hK K
                  refine z32 ?_
                  refine z24 ?_
                  refine ⟨rfl, ?_⟩
                  rw [show (badKit k) = (!k.days.all dayB) from by simp [badKit, ho0, ho1, ho2, ho3, ho4, ho5, ho6]]
                  simp (maxSteps := 4000000) only [go_sem]
                  refine z13 [] ?_ ?_ rfl rfl <;> simp [lessT, lessM, lessB, AV.less]
  simp (maxSteps := 4000000) only [go_sem]
  repeat (first | refine nx ?_ | (refine z10 fun K hK => ?_; simp (maxSteps := 4000000) only [go_sem]; refine hK _ ?_; clear hK K))
  refine z14 rfl (fun hc => ?_) (fun hc => ?_)
  · rw [hc]
    repeat (first | refine nx ?_ | (refine z10 fun K hK => ?_; simp (maxSteps := 4000000) only [go_sem]; refine hK _ ?_; clear hK K))
    simp (maxSteps := 4000000) only [go_sem, if_true]
  · rw [hc]
    repeat (first | refine nx ?_ | (refine z10 fun K hK => ?_; simp (maxSteps := 4000000) only [go_sem]; refine hK _ ?_; clear hK K))
    simp (maxSteps := 4000000) only [go_sem, Bool.false_eq_true, if_false]
end Go.Ab
namespace Go.Ab
open Go.RowKit Go.Proofs
set_option maxHeartbeats 8000000
set_option maxRecDepth 20000
attribute [local irreducible] WalkL Walk
def badGood (a : List Int) (needs : List Int) (no : Int) (i : Nat) : Bool := decide (getI needs (i : Int) > 0) && (bAnd .i64 (getI a (i : Int)) no != 0)
def suitTo (a : List Int) (needs : List Int) (no : Int) : Nat → Bool
  | 0 => true
  | i + 1 => suitTo a needs no i && !badGood a needs no i
def noDish : Dish := ⟨[]⟩
def dishAt (k : Kitchen) (n : Int) : Dish := k.dishes.getD n.toNat noDish
def suitsB (k : Kitchen) (n : Int) (no : Int) : Bool := suitTo k.allerg (dishAt k n).needs no (dishAt k n).needs.length
theorem z311 {a needs : List Int} {no : Int} {i : Nat} (h : badGood a needs no i = true) : ∀ {m : Nat}, i < m → suitTo a needs no m = false := by
  intro m hm
  induction hm with
  | refl => rw [suitTo, h]; simp
  | step _ ih => rw [suitTo, ih]; rfl
theorem z21 {l : List Int} {i : Nat} (h : i < l.length) : (intRows l)[i]? = some [.i (getI l (i : Int))] := by
  obtain ⟨x, hx⟩ : ∃ x, l[i]? = some x := ⟨_, List.getElem?_eq_getElem h⟩
  rw [z37 hx, getI, Int.toNat_natCast, List.getD, hx]
  rfl
theorem z495 {k : Kitchen} {n : Nat} (h : n < k.dishes.length) : (dishRows k.dishes)[n]? = some [.sl (intRows (dishAt k (n : Int)).needs)] := by
  obtain ⟨x, hx⟩ : ∃ x, k.dishes[n]? = some x := ⟨_, List.getElem?_eq_getElem h⟩
  rw [z108 hx, dishAt, Int.toNat_natCast, List.getD, hx]
  rfl
structure KitGood (k : Kitchen) : Prop where
  goods : 1 ≤ k.allerg.length ∧ k.allerg.length ≤ 6
  allerg : ∀ n ∈ k.allerg, 0 ≤ n ∧ n ≤ 255
  batches : k.batches.length ≤ 10
  batch : ∀ b ∈ k.batches, (0 ≤ b.good ∧ b.good < k.allerg.length) ∧ (0 ≤ b.amount ∧ b.amount ≤ 1000000) ∧ (0 ≤ b.last ∧ b.last ≤ 30)
  dishes : 1 ≤ k.dishes.length ∧ k.dishes.length ≤ 5
  needs : ∀ d ∈ k.dishes, d.needs.length = k.allerg.length ∧ ∀ n ∈ d.needs, 0 ≤ n ∧ n ≤ 5000
  days : 1 ≤ k.days.length ∧ k.days.length ≤ 6
  groups : ∀ d ∈ k.days, d.length ≤ 3 ∧ ∀ g ∈ d, (0 ≤ g.no ∧ g.no ≤ 255) ∧ (0 ≤ g.count.lo ∧ g.count.lo ≤ g.count.hi ∧ g.count.hi ≤ 100)
theorem z142 {k : Kitchen} (h : badKit k = false) : KitGood k := by
  simp only [badKit, Bool.or_eq_false_iff, Bool.not_eq_false', decide_eq_false_iff_not, List.all_eq_true] at h
  obtain ⟨h1, h2, h3, h4, h5, h6, h7, h8⟩ := h
  have h1 := z36.1 h1
  have h5 := z36.1 h5
  have h7 := z36.1 h7
  refine ⟨by omega, fun n hn => z36.1 (h2 n hn), by omega, fun b hb => ?_, by omega, fun d hd => ?_, by omega, fun d hd => ?_⟩
  · have := h4 b hb
    simp only [batchB, Bool.and_eq_true] at this
    have q1 := z36.1 this.1
    exact ⟨by omega, z36.1 this.2.1, z36.1 this.2.2⟩
  · have := h6 d hd
    simp only [dishB, Bool.and_eq_true, beq_iff_eq, List.all_eq_true] at this
    exact ⟨by omega, fun n hn => z36.1 (this.2 n hn)⟩
  · have := h8 d hd
    simp only [dayB, Bool.and_eq_true, decide_eq_true_eq, List.all_eq_true] at this
    refine ⟨by omega, fun g hg => ?_⟩
    have := this.2 g hg
    simp only [groupB, Bool.and_eq_true, decide_eq_true_eq] at this
    exact ⟨z36.1 this.1, this.2⟩
structure KitWide (k : Kitchen) : Prop where
  goods : 1 ≤ k.allerg.length ∧ k.allerg.length ≤ 6
  allerg : ∀ n ∈ k.allerg, 0 ≤ n ∧ n ≤ 255
  batches : k.batches.length ≤ 16
  batch : ∀ b ∈ k.batches, (0 ≤ b.good ∧ b.good < k.allerg.length) ∧ (0 ≤ b.amount ∧ b.amount ≤ 9000000) ∧ (0 ≤ b.last ∧ b.last ≤ 30)
  dishes : 1 ≤ k.dishes.length ∧ k.dishes.length ≤ 5
  needs : ∀ d ∈ k.dishes, d.needs.length = k.allerg.length ∧ ∀ n ∈ d.needs, 0 ≤ n ∧ n ≤ 5000
  days : 1 ≤ k.days.length ∧ k.days.length ≤ 6
  groups : ∀ d ∈ k.days, d.length ≤ 3 ∧ ∀ g ∈ d, (0 ≤ g.no ∧ g.no ≤ 255) ∧ (0 ≤ g.count.lo ∧ g.count.lo ≤ g.count.hi ∧ g.count.hi ≤ 100)
theorem KitGood.wide {k : Kitchen} (h : KitGood k) : KitWide k :=
  ⟨h.goods, h.allerg, by have := h.batches; omega, fun b hb => ⟨(h.batch b hb).1, by have := (h.batch b hb).2.1; omega, (h.batch b hb).2.2⟩, h.dishes, h.needs, h.days, h.groups⟩
instance {k : Kitchen} : Coe (KitGood k) (KitWide k) := ⟨KitGood.wide⟩
theorem z136 {k : Kitchen} : kitE k = 0 ↔ badKit k = false := by
  unfold kitE
  cases badKit k <;> simp
theorem z298 {k : Kitchen} (hg : KitWide k) {n : Nat} (h : n < k.dishes.length) : (dishAt k (n : Int)).needs.length = k.allerg.length := by
  obtain ⟨x, hx⟩ : ∃ x, k.dishes[n]? = some x := ⟨_, List.getElem?_eq_getElem h⟩
  have : dishAt k (n : Int) = x := by rw [dishAt, Int.toNat_natCast, List.getD, hx]; rfl
  rw [this]
  exact (hg.needs x (List.mem_of_getElem? hx)).1
theorem z1096 (k : Kitchen) (hg : KitWide k) (n : Nat) (no : Int) (hn : n < k.dishes.length) : Fn Try.prog 86 [.agg k.cells, .i (n : Int), .i no] (.bool (suitsB k (n : Int) no)) := by
  have gd := z495 hn
  have hl := z298 hg hn
  have hgo := hg.goods
  have hnn : ¬ ((n : Int) < 0) := by omega
  unfold suitsB
  obtain ⟨N, hN⟩ : ∃ N, N = (dishAt k (n : Int)).needs := ⟨_, rfl⟩
  rw [← hN] at gd hl ⊢
  refine z18 36 Try.call86 Try.func86 rfl (by decide) fun J => ?_
  simp (maxSteps := 4000000) only [go_sem, St.start, Try.ntmps86, Try.results86, Kitchen.cells]
  repeat (first | refine nx ?_ | (refine z10 fun K hK => ?_; simp (maxSteps := 4000000) only [go_sem, gd, hnn]; refine hK _ ?_; clear hK K))
  refine z15 (fun (i : Nat) => [(17, .d (.i (i : Int)))]) (fun _ => []) (fun i => i ≤ N.length ∧ suitTo k.allerg N no i = true) (fun i => N.length - i) 0 ?_ ⟨Nat.zero_le _, rfl⟩ ?_
  · simp (maxSteps := 4000000) only [go_sem]
    refine z13 [] ?_ ?_ rfl rfl <;> simp [lessT, lessM, lessB, AV.less]
  · rintro i ⟨hi, hs⟩
    simp (maxSteps := 4000000) only [go_sem]
    repeat (first | refine nx ?_ | (refine z10 fun K hK => ?_; simp (maxSteps := 4000000) only [go_sem]; refine hK _ ?_; clear hK K))
    refine z14 rfl (fun hb => ?_) (fun hb => ?_)
    · have hlt : i < N.length := by simpa using hb
      have hw : IntKind.i64.wrap ((i : Int) + 1) = ((i + 1 : Nat) : Int) := by rw [z16 (by omega)]; simp
      have g1 := z21 hlt
      have g2 := z21 (l := k.allerg) (i := i) (by omega)
      have hni : ¬ ((i : Int) < 0) := by omega
      cases q1 : decide (getI N (i : Int) > 0)
      · have hbg : badGood k.allerg N no i = false := by rw [badGood, q1]; rfl
        repeat (first | refine z12 rfl ?_ | refine z11 rfl ?_ | refine nx ?_ | (refine z10 fun K hK => ?_; simp (maxSteps := 4000000) only [go_sem, g1, q1, hw]; refine hK _ ?_; clear hK K))
        refine ⟨rfl, i + 1, ?_, ⟨hlt, by rw [suitTo, hs, hbg]; rfl⟩, by omega⟩
        refine z13 [] ?_ ?_ rfl rfl <;> simp [lessT, lessM, lessB, AV.less]
      · cases q2 : (bAnd .i64 (getI k.allerg (i : Int)) no != 0)
        · have hbg : badGood k.allerg N no i = false := by rw [badGood, q2, Bool.and_false]
          repeat (first | refine z12 rfl ?_ | refine z11 rfl ?_ | refine nx ?_ | (refine z10 fun K hK => ?_; simp (maxSteps := 4000000) only [go_sem, g1, g2, q1, q2, hni, hw]; refine hK _ ?_; clear hK K))
          refine ⟨rfl, i + 1, ?_, ⟨hlt, by rw [suitTo, hs, hbg]; rfl⟩, by omega⟩
          refine z13 [] ?_ ?_ rfl rfl <;> simp [lessT, lessM, lessB, AV.less]
        · have hbg : badGood k.allerg N no i = true := by rw [badGood, q1, q2]; rfl
          rw [z311 hbg hlt]
          repeat (first | refine z12 rfl ?_ | refine z11 rfl ?_ | refine nx ?_ | (refine z10 fun K hK => ?_; simp (maxSteps := 4000000) only [go_sem, g1, g2, q1, q2, hni]; refine hK _ ?_; clear hK K))
          simp (maxSteps := 4000000) only [go_sem]
    · have he : i = N.length := by (have : ¬ i < N.length := by simpa using hb); omega
      subst he
      rw [hs]
      repeat (first | refine nx ?_ | (refine z10 fun K hK => ?_; simp (maxSteps := 4000000) only [go_sem]; refine hK _ ?_; clear hK K))
      simp (maxSteps := 4000000) only [go_sem]
def menuB (k : Kitchen) (n : Int) (g : Diners) : Bool := withinB n 0 ((k.dishes.length : Int) - 1) && suitsB k n g.no
theorem z1125 (k : Kitchen) (hg : KitWide k) (n : Int) (g : Diners) : Fn Try.prog 83 [.agg k.cells, .i n, .agg g.row] (.bool (menuB k n g)) := by
  have hd := hg.dishes
  have h1 := z942 n 0 ((k.dishes.length : Int) - 1)
  have w : IntKind.i64.wrap ((k.dishes.length : Int) - 1) = (k.dishes.length : Int) - 1 := z16 (by omega)
  unfold menuB
  cases q : withinB n 0 ((k.dishes.length : Int) - 1)
  · rw [q] at h1
    refine z18 21 Try.call83 Try.func83 rfl (by decide) fun J => ?_
    simp (maxSteps := 4000000) only [go_sem, St.start, Try.ntmps83, Try.results83, Kitchen.cells, Diners.row]
    repeat (first | refine nx ?_ | (refine z10 fun K hK => ?_; simp (maxSteps := 4000000) only [go_sem, w]; (repeat (first | (refine ⟨_, .lent (hf := h1) (hd := rfl) (hr := rfl), ?_⟩; simp (maxSteps := 4000000) only [go_sem, w]) | (refine ⟨_, .given (hf := h1) (hd := rfl) (ha := rfl), ?_⟩; simp (maxSteps := 4000000) only [go_sem, w]))); refine hK _ ?_; clear hK K))
    simp (maxSteps := 4000000) only [go_sem, Bool.false_and]
  · rw [q] at h1
    have r := z36.1 q
    obtain ⟨m, rfl⟩ : ∃ m : Nat, n = m := ⟨n.toNat, by omega⟩
    have h2 := z1096 k hg m g.no (by omega)
    rw [Kitchen.cells] at h2
    refine z18 21 Try.call83 Try.func83 rfl (by decide) fun J => ?_
    simp (maxSteps := 4000000) only [go_sem, St.start, Try.ntmps83, Try.results83, Kitchen.cells, Diners.row]
    repeat (first | refine nx ?_ | (refine z10 fun K hK => ?_; simp (maxSteps := 4000000) only [go_sem, w]; (repeat (first | (refine ⟨_, .lent (hf := h1) (hd := rfl) (hr := rfl), ?_⟩; simp (maxSteps := 4000000) only [go_sem, w]) | (refine ⟨_, .lent (hf := h2) (hd := rfl) (hr := rfl), ?_⟩; simp (maxSteps := 4000000) only [go_sem, w]) | (refine ⟨_, .given (hf := h1) (hd := rfl) (ha := rfl), ?_⟩; simp (maxSteps := 4000000) only [go_sem, w]) | (refine ⟨_, .given (hf := h2) (hd := rfl) (ha := rfl), ?_⟩; simp (maxSteps := 4000000) only [go_sem, w]))); refine hK _ ?_; clear hK K))
    simp (maxSteps := 4000000) only [go_sem, Bool.true_and]
def rowOk (q : Int → Diners → Bool) : List Int → List Diners → Bool
  | [], [] => true
  | n :: l, g :: gs => q n g && rowOk q l gs
  | _, _ => false
def shapedB (q : Int → Diners → Bool) : List (List Int) → List (List Diners) → Bool
  | [], [] => true
  | r :: l, d :: ds => rowOk q r d && shapedB q l ds
  | _, _ => false
theorem z87 {q : Int → Diners → Bool} : ∀ {l : List Int} {d : List Diners}, rowOk q l d = true → l.length = d.length
  | [], [], _ => rfl
  | _ :: l, _ :: d, h => by
    rw [rowOk, Bool.and_eq_true] at h
    simp [z87 h.2]
  | [], _ :: _, h => by cases h
  | _ :: _, [], h => by cases h
theorem z27 {q : Int → Diners → Bool} : ∀ {l : List (List Int)} {d : List (List Diners)}, shapedB q l d = true → l.length = d.length
  | [], [], _ => rfl
  | _ :: l, _ :: d, h => by
    rw [shapedB, Bool.and_eq_true] at h
    simp [z27 h.2]
  | [], _ :: _, h => by cases h
  | _ :: _, [], h => by cases h
theorem z1080 (k : Kitchen) (hg : KitWide k) (M : List (List Int)) (hM : M.length < 2 ^ 30) (hMr : ∀ r ∈ M, r.length < 2 ^ 30) : Fn Try.prog 52 [.agg k.cells, .sl (listRows M), .bnd 83 [.agg k.cells]] (.bool (shapedB (menuB k) M k.days)) := by
  have hdd := hg.days
  have hgr := hg.groups
  obtain ⟨q, hq⟩ : ∃ q, q = menuB k := ⟨_, rfl⟩
  have h137 := fun (n : Int) (g : Diners) => z1125 k hg n g
  simp only [← hq] at h137
  rw [← hq]
  rw [Kitchen.cells] at h137
  obtain ⟨R, hR⟩ : ∃ R, R = shapedB q M k.days := ⟨_, rfl⟩
  rw [← hR]
  cases q1 : ((M.length : Int) != (k.days.length : Int))
  · have hl : M.length = k.days.length := by
      simp only [bne_eq_false_iff_eq] at q1
      omega
    refine z18 55 Try.call52 Try.func52 rfl (by decide) fun J => ?_
    simp (maxSteps := 4000000) only [go_sem, St.start, Try.ntmps52, Try.results52, Kitchen.cells]
    repeat (first | refine z12 rfl ?_ | refine z11 rfl ?_ | refine nx ?_ | (refine z10 fun K hK => ?_; simp (maxSteps := 4000000) only [go_sem, q1]; refine hK _ ?_; clear hK K))
    refine z15 (fun (i : Nat) => [(22, .d (.i (i : Int)))]) (fun _ => []) (fun i => i ≤ k.days.length ∧ R = shapedB q (M.drop i) (k.days.drop i)) (fun i => k.days.length - i) 0 ?_ ⟨Nat.zero_le _, hR⟩ ?_
    · simp (maxSteps := 4000000) only [go_sem]
      refine z13 [] ?_ ?_ rfl rfl <;> simp [lessT, lessM, lessB, AV.less]
    · rintro i ⟨hi, hRi⟩
      simp (maxSteps := 4000000) only [go_sem]
      repeat (first | refine nx ?_ | (refine z10 fun K hK => ?_; simp (maxSteps := 4000000) only [go_sem]; refine hK _ ?_; clear hK K))
      refine z14 rfl (fun hb => ?_) (fun hb => ?_)
      · have hlt : i < k.days.length := by simpa using hb
        have hw : IntKind.i64.wrap ((i : Int) + 1) = ((i + 1 : Nat) : Int) := by rw [z16 (by omega)]; simp
        obtain ⟨d, hd⟩ : ∃ d, k.days[i]? = some d := ⟨_, List.getElem?_eq_getElem hlt⟩
        obtain ⟨r, hr⟩ : ∃ r, M[i]? = some r := ⟨_, List.getElem?_eq_getElem (by omega)⟩
        have g1 := z69 hd
        have g2 := z40 hr
        have hni : ¬ ((i : Int) < 0) := by omega
        have hd3 := (hgr d (List.mem_of_getElem? hd)).1
        rw [z25 hd, z25 hr, shapedB] at hRi
        cases q2 : ((r.length : Int) != (d.length : Int))
        · have hrl : r.length = d.length := by
            simp only [bne_eq_false_iff_eq] at q2
            omega
          repeat (first | refine z12 rfl ?_ | refine z11 rfl ?_ | refine nx ?_ | (refine z10 fun K hK => ?_; simp (maxSteps := 4000000) only [go_sem, g1, g2, hni, q2]; refine hK _ ?_; clear hK K))
          refine z15 (fun (j : Nat) => [(37, .d (.i (j : Int)))]) (fun _ => []) (fun j => j ≤ d.length ∧ R = (rowOk q (r.drop j) (d.drop j) && shapedB q (M.drop (i + 1)) (k.days.drop (i + 1)))) (fun j => d.length - j) 0 ?_ ⟨Nat.zero_le _, hRi⟩ ?_
          · simp (maxSteps := 4000000) only [go_sem]
            refine z13 [] ?_ ?_ rfl rfl <;> simp [lessT, lessM, lessB, AV.less]
          · rintro j ⟨hj, hRj⟩
            simp (maxSteps := 4000000) only [go_sem]
            repeat (first | refine nx ?_ | (refine z10 fun K hK => ?_; simp (maxSteps := 4000000) only [go_sem]; refine hK _ ?_; clear hK K))
            refine z14 rfl (fun hb => ?_) (fun hb => ?_)
            · have hltj : j < d.length := by simpa using hb
              have hwj : IntKind.i64.wrap ((j : Int) + 1) = ((j + 1 : Nat) : Int) := by rw [z16 (by omega)]; simp
              obtain ⟨g, hgj⟩ : ∃ g, d[j]? = some g := ⟨_, List.getElem?_eq_getElem hltj⟩
              obtain ⟨n, hnj⟩ : ∃ n, r[j]? = some n := ⟨_, List.getElem?_eq_getElem (by omega)⟩
              have g3 := z68 hgj
              have g4 := z37 hnj
              rw [Diners.row] at g3
              have hnjj : ¬ ((j : Int) < 0) := by omega
              have hc := h137 n g
              rw [Diners.row] at hc
              rw [z25 hgj, z25 hnj, rowOk] at hRj
              cases q3 : q n g
              · rw [q3] at hRj hc
                rw [Bool.false_and, Bool.false_and] at hRj
                rw [hRj]
                repeat (first | refine nx ?_ | (refine z10 fun K hK => ?_; simp (maxSteps := 4000000) only [go_sem, g3]; refine hK _ ?_; clear hK K))
                refine z17 (by kernel_rfl) (by kernel_rfl) fun K hK => ?_
                simp (maxSteps := 4000000) only [go_sem, g2, g4, hni, hnjj]
                refine ⟨_, .fn (hf := hc) (hd := rfl) (hr := .inl rfl), ?_⟩
                simp (maxSteps := 4000000) only [go_sem]
                refine ⟨by kernel_rfl, hK _ ?_⟩
                clear hK K
                repeat (first | refine z12 rfl ?_ | refine z11 rfl ?_ | refine nx ?_ | (refine z10 fun K hK => ?_; simp (maxSteps := 4000000) only [go_sem]; refine hK _ ?_; clear hK K))
                simp (maxSteps := 4000000) only [go_sem]
              · rw [q3] at hRj hc
                rw [Bool.true_and] at hRj
                repeat (first | refine nx ?_ | (refine z10 fun K hK => ?_; simp (maxSteps := 4000000) only [go_sem, g3]; refine hK _ ?_; clear hK K))
                refine z17 (by kernel_rfl) (by kernel_rfl) fun K hK => ?_
                simp (maxSteps := 4000000) only [go_sem, g2, g4, hni, hnjj]
                refine ⟨_, .fn (hf := hc) (hd := rfl) (hr := .inl rfl), ?_⟩
                simp (maxSteps := 4000000) only [go_sem]
                refine ⟨by kernel_rfl, hK _ ?_⟩
                clear hK K
                repeat (first | refine z12 rfl ?_ | refine z11 rfl ?_ | refine nx ?_ | (refine z10 fun K hK => ?_; simp (maxSteps := 4000000) only [go_sem, hwj]; refine hK _ ?_; clear hK K))
                refine ⟨rfl, j + 1, ?_, ⟨hltj, hRj⟩, by omega⟩
                refine z13 [] ?_ ?_ rfl rfl <;> simp [lessT, lessM, lessB, AV.less]
            · have he : j = d.length := by (have : ¬ j < d.length := by simpa using hb); omega
              subst he
              rw [List.drop_length, ← hrl, List.drop_length, rowOk, Bool.true_and] at hRj
              repeat (first | refine nx ?_ | (refine z10 fun K hK => ?_; simp (maxSteps := 4000000) only [go_sem, hw]; refine hK _ ?_; clear hK K))
              refine ⟨rfl, i + 1, ?_, ⟨hlt, hRj⟩, by omega⟩
              refine z13 [] ?_ ?_ rfl rfl <;> simp [lessT, lessM, lessB, AV.less]
        · have hf : rowOk q r d = false := by
            cases hx : rowOk q r d with
            | false => rfl
            | true =>
              have := z87 hx
              rw [this] at q2
              simp at q2
          rw [hf, Bool.false_and] at hRi
          rw [hRi]
          repeat (first | refine z12 rfl ?_ | refine z11 rfl ?_ | refine nx ?_ | (refine z10 fun K hK => ?_; simp (maxSteps := 4000000) only [go_sem, g1, g2, hni, q2]; refine hK _ ?_; clear hK K))
          simp (maxSteps := 4000000) only [go_sem]
      · have he : i = k.days.length := by (have : ¬ i < k.days.length := by simpa using hb); omega
        subst he
        rw [List.drop_length, ← hl, List.drop_length, shapedB] at hRi
        rw [hRi]
        repeat (first | refine nx ?_ | (refine z10 fun K hK => ?_; simp (maxSteps := 4000000) only [go_sem]; refine hK _ ?_; clear hK K))
        simp (maxSteps := 4000000) only [go_sem]
  · have hf : R = false := by
      rw [hR]
      cases hx : shapedB q M k.days with
      | false => rfl
      | true =>
        have := z27 hx
        rw [this] at q1
        simp at q1
    rw [hf]
    refine z18 55 Try.call52 Try.func52 rfl (by decide) fun J => ?_
    simp (maxSteps := 4000000) only [go_sem, St.start, Try.ntmps52, Try.results52, Kitchen.cells]
    repeat (first | refine z12 rfl ?_ | refine z11 rfl ?_ | refine nx ?_ | (refine z10 fun K hK => ?_; simp (maxSteps := 4000000) only [go_sem, q1]; refine hK _ ?_; clear hK K))
    simp (maxSteps := 4000000) only [go_sem]
def openK (k : Kitchen) (M : List (List Int)) : Int := if kitE k = 0 then (if shapedB (menuB k) M k.days then 0 else 71) else kitE k
theorem z1101 (k : Kitchen) (M : List (List Int)) (hs : KitSmall k) (hM : M.length < 2 ^ 30) (hMr : ∀ r ∈ M, r.length < 2 ^ 30) : Fn Try.prog 48 [.agg k.cells, .sl (listRows M)] (.tup [.agg k.cells, .i (openK k M)]) := by
  have h135 := z1103 k hs
  unfold openK
  rw [Kitchen.cells] at h135
  by_cases h0 : kitE k = 0
  · rw [if_pos h0]
    rw [h0] at h135
    have h136 := z1080 k (z142 (z136.1 h0)) M hM hMr
    rw [Kitchen.cells] at h136
    cases q : shapedB (menuB k) M k.days
    · rw [q] at h136
      refine z18 24 Try.call48 Try.func48 rfl (by decide) fun J => ?_
      simp (maxSteps := 4000000) only [go_sem, St.start, Try.ntmps48, Try.results48, Kitchen.cells]
      repeat (first | refine z12 rfl ?_ | refine z11 rfl ?_ | refine nx ?_ | (refine z10 fun K hK => ?_; simp (maxSteps := 4000000) only [go_sem]; (repeat (first | (refine ⟨_, .lent (hf := h135) (hd := rfl) (hr := rfl), ?_⟩; simp (maxSteps := 4000000) only [go_sem]) | (refine ⟨_, .lent (hf := h136) (hd := rfl) (hr := rfl), ?_⟩; simp (maxSteps := 4000000) only [go_sem]) | (refine ⟨_, .given (hf := h135) (hd := rfl) (ha := rfl), ?_⟩; simp (maxSteps := 4000000) only [go_sem]) | (refine ⟨_, .given (hf := h136) (hd := rfl) (ha := rfl), ?_⟩; simp (maxSteps := 4000000) only [go_sem]))); refine hK _ ?_; clear hK K))
      simp (maxSteps := 4000000) only [go_sem]
    · rw [q] at h136
      refine z18 24 Try.call48 Try.func48 rfl (by decide) fun J => ?_
      simp (maxSteps := 4000000) only [go_sem, St.start, Try.ntmps48, Try.results48, Kitchen.cells]
      repeat (first | refine z12 rfl ?_ | refine z11 rfl ?_ | refine nx ?_ | (refine z10 fun K hK => ?_; simp (maxSteps := 4000000) only [go_sem]; (repeat (first | (refine ⟨_, .lent (hf := h135) (hd := rfl) (hr := rfl), ?_⟩; simp (maxSteps := 4000000) only [go_sem]) | (refine ⟨_, .lent (hf := h136) (hd := rfl) (hr := rfl), ?_⟩; simp (maxSteps := 4000000) only [go_sem]) | (refine ⟨_, .given (hf := h135) (hd := rfl) (ha := rfl), ?_⟩; simp (maxSteps := 4000000) only [go_sem]) | (refine ⟨_, .given (hf := h136) (hd := rfl) (ha := rfl), ?_⟩; simp (maxSteps := 4000000) only [go_sem]))); refine hK _ ?_; clear hK K))
      simp (maxSteps := 4000000) only [go_sem]
  · rw [if_neg h0]
    have hz : (kitE k != 0) = true := by simpa using h0
    obtain ⟨e, he⟩ : ∃ e, e = kitE k := ⟨_, rfl⟩
    rw [← he] at h135 hz ⊢
    refine z18 24 Try.call48 Try.func48 rfl (by decide) fun J => ?_
    simp (maxSteps := 4000000) only [go_sem, St.start, Try.ntmps48, Try.results48, Kitchen.cells]
    repeat (first | refine z12 rfl ?_ | refine z11 rfl ?_ | refine nx ?_ | (refine z10 fun K hK => ?_; simp (maxSteps := 4000000) only [go_sem, hz]; (repeat (first | (refine ⟨_, .lent (hf := h135) (hd := rfl) (hr := rfl), ?_⟩; simp (maxSteps := 4000000) only [go_sem, hz]) | (refine ⟨_, .given (hf := h135) (hd := rfl) (ha := rfl), ?_⟩; simp (maxSteps := 4000000) only [go_sem, hz]))); refine hK _ ?_; clear hK K))
    simp (maxSteps := 4000000) only [go_sem]
end Go.Ab
/- Memory of the call's own that is handed over whole; drawn regions whose calls stand in an order. -/
namespace Go.Ab
open Go.RowKit
theorem CallR.own {P : Program} {st : St} {dst : Option Tmp} {g : FuncId} {xs : List AV} {m0 : List Blk} {pins : List Nat} {args : List AV} {r : AV} {m1 : List Blk} (ns news bads rd : List Nat) (hf : FnG P g m0 pins args r m1)
    (hnd : (ns ++ news).Nodup) (hl0 : ns.length = m0.length) (hl1 : (ns ++ news).length = m1.length) (hm : blksG st ns ns m0) (hnew : news.all st.fresh = true) (hla : xs.length = args.length)
    (ha : ∀ (i : Nat) x y, xs[i]? = some x → args[i]? = some y → argG st ns rd x y) (hrd : rd.all (fun n => !ns.contains n) = true) (hsh : shutG st rd) (hb : (List.range ns.length).all (fun i => pins.contains i || bads.contains (ns.getD i 0)) = true)
    (hfl : rd = [] ∨ (r.flatA = true ∧ m1.all Blk.flatB = true)) :
    CallR P st dst g xs (({ (st.keep bads) with m := putM (ns ++ news) (m1.map (Blk.mapN fun i => (ns ++ news)[i]?)) (st.keep bads).m } : St).put dst (r.mapN fun i => (ns ++ news)[i]?)) :=
  CallR.gen m0 pins args r m1 ns news rd bads hf hnd hl0 hl1 (z353 hm).2 (fun n hn => z33 (List.all_eq_true.1 hnew n hn)) hla ha (fun n hn => by simpa using List.all_eq_true.1 hrd n hn) hsh
    (fun i n hi hn => by
      have hil := (List.getElem?_eq_some_iff.1 hi).1
      have := List.all_eq_true.1 hb i (List.mem_range.2 hil)
      rw [Bool.or_eq_true] at this
      rcases this with h | h
      · simpa using h
      · rw [List.getD, hi] at h
        exact absurd (by simpa using h) hn) hfl
theorem z29 (st : St) : shutG st [] := fun n hn => by cases hn
theorem z922 {e z : Nat} {rows : List (List DV)} (h : rowsFlat rows) : Blk.flatB (.arr e z rows) = true := by
  simp only [Blk.flatB, List.all_eq_true]
  intro r hr
  exact h r hr
def offM (m : Nat → Bool) (i : Nat) : Nat → Bool := fun j => if j = i then false else m j
def depsM (m : Nat → Bool) : List Edge → Prop
  | [] => True
  | e :: es => (Region.binds .any e = true → m e.on = false) ∧ depsM m es
theorem z234 {m : Nat → Bool} : ∀ {es : List Edge}, (∀ e ∈ es, Region.binds .any e = true → m e.on = false) → depsM m es
  | [], _ => trivial
  | e :: es, h => ⟨h e (by simp), z234 fun e he => h e (by simp [he])⟩
def stepsM (P : Program) (G : (Nat → Bool) → St) : List Oper → Nat → Prop
  | [], _ => True
  | o :: os, i => (∀ m : Nat → Bool, m i = true → depsM m o.after.toList → dstOk o = true ∧ o.guard = none ∧ stepK P o (G m) (fun s => s = G (offM m i))) ∧ stepsM P G os (i + 1)
def StepM (P : Program) (G : (Nat → Bool) → St) (o : Oper) (i : Nat) : Prop := ∀ m : Nat → Bool, m i = true → depsM m o.after.toList → dstOk o = true ∧ o.guard = none ∧ stepK P o (G m) (fun s => s = G (offM m i))
theorem z1010 {ops : Array Oper} (hb : backB ops = true) {i j : Nat} (h : Anc ops i j) : i < j := by
  induction h with
  | edge ho he hbi => exact z110 hb ho he hbi
  | step _ _ h1 h2 => omega
structure LeftC (ops : Array Oper) (G : (Nat → Bool) → St) (rs : List Nat) (s s' : St) : Prop where
  now : s = G fun i => rs.contains i
  fin : s' = G fun _ => false
  nodup : rs.Nodup
  ord : rs.Pairwise fun a b => ¬ Anc ops b a
  size : ∀ i ∈ rs, i < ops.size
section
variable {P : Program} {rd : Option Nat} {n : Nat} {J : Env} {ops : Array Oper} {cs : List Code} {k : Option Nat} {st : St} {Q : Exit → Option Nat → St → Prop}
end
attribute [go_sem] offM
end Go.Ab
namespace Go.Ab
open Go.RowKit Go.Proofs
set_option maxHeartbeats 8000000
set_option maxRecDepth 20000
attribute [local irreducible] WalkL Walk
def cmpI (a b : Int) : Int := if a < b then -1 else if a > b then 1 else 0
theorem z1057 (n : Int) : Fn Try.prog 100 [.i n] (.bool false) := by
  have q : (n != n) = false := by simp
  refine z18 6 Try.call100 Try.func100 rfl (by decide) fun J => ?_
  simp (maxSteps := 4000000) only [go_sem, St.start, Try.ntmps100, Try.results100]
  repeat (first | refine nx ?_ | (refine z10 fun K hK => ?_; simp (maxSteps := 4000000) only [go_sem, q]; refine hK _ ?_; clear hK K))
  simp (maxSteps := 4000000) only [go_sem]
theorem z1126 (a b : Int) : Fn Try.prog 82 [.i a, .i b] (.i (cmpI a b)) := by
  have h1 := z1057 a
  have h2 := z1057 b
  unfold cmpI
  by_cases q1 : a < b
  · rw [if_pos q1]
    have d : decide (a < b) = true := decide_eq_true q1
    refine z18 20 Try.call82 Try.func82 rfl (by decide) fun J => ?_
    simp (maxSteps := 4000000) only [go_sem, St.start, Try.ntmps82, Try.results82]
    repeat (first | refine z12 rfl ?_ | refine z11 rfl ?_ | refine nx ?_ | (refine z10 fun K hK => ?_; simp (maxSteps := 4000000) only [go_sem, d]; (repeat (first | (refine ⟨_, .lent (hf := h1) (hd := rfl) (hr := rfl), ?_⟩; simp (maxSteps := 4000000) only [go_sem, d]) | (refine ⟨_, .lent (hf := h2) (hd := rfl) (hr := rfl), ?_⟩; simp (maxSteps := 4000000) only [go_sem, d]) | (refine ⟨_, .given (hf := h1) (hd := rfl) (ha := rfl), ?_⟩; simp (maxSteps := 4000000) only [go_sem, d]) | (refine ⟨_, .given (hf := h2) (hd := rfl) (ha := rfl), ?_⟩; simp (maxSteps := 4000000) only [go_sem, d]))); refine hK _ ?_; clear hK K))
    simp (maxSteps := 4000000) only [go_sem]
  · rw [if_neg q1]
    have d : decide (a < b) = false := decide_eq_false q1
    by_cases q2 : a > b
    · rw [if_pos q2]
      have d2 : decide (a > b) = true := decide_eq_true q2
      refine z18 20 Try.call82 Try.func82 rfl (by decide) fun J => ?_
      simp (maxSteps := 4000000) only [go_sem, St.start, Try.ntmps82, Try.results82]
      repeat (first | refine z12 rfl ?_ | refine z11 rfl ?_ | refine nx ?_ | (refine z10 fun K hK => ?_; simp (maxSteps := 4000000) only [go_sem, d, d2]; (repeat (first | (refine ⟨_, .lent (hf := h1) (hd := rfl) (hr := rfl), ?_⟩; simp (maxSteps := 4000000) only [go_sem, d, d2]) | (refine ⟨_, .lent (hf := h2) (hd := rfl) (hr := rfl), ?_⟩; simp (maxSteps := 4000000) only [go_sem, d, d2]) | (refine ⟨_, .given (hf := h1) (hd := rfl) (ha := rfl), ?_⟩; simp (maxSteps := 4000000) only [go_sem, d, d2]) | (refine ⟨_, .given (hf := h2) (hd := rfl) (ha := rfl), ?_⟩; simp (maxSteps := 4000000) only [go_sem, d, d2]))); refine hK _ ?_; clear hK K))
      simp (maxSteps := 4000000) only [go_sem]
    · rw [if_neg q2]
      have d2 : decide (a > b) = false := decide_eq_false q2
      refine z18 20 Try.call82 Try.func82 rfl (by decide) fun J => ?_
      simp (maxSteps := 4000000) only [go_sem, St.start, Try.ntmps82, Try.results82]
      repeat (first | refine z12 rfl ?_ | refine z11 rfl ?_ | refine nx ?_ | (refine z10 fun K hK => ?_; simp (maxSteps := 4000000) only [go_sem, d, d2]; (repeat (first | (refine ⟨_, .lent (hf := h1) (hd := rfl) (hr := rfl), ?_⟩; simp (maxSteps := 4000000) only [go_sem, d, d2]) | (refine ⟨_, .lent (hf := h2) (hd := rfl) (hr := rfl), ?_⟩; simp (maxSteps := 4000000) only [go_sem, d, d2]) | (refine ⟨_, .given (hf := h1) (hd := rfl) (ha := rfl), ?_⟩; simp (maxSteps := 4000000) only [go_sem, d, d2]) | (refine ⟨_, .given (hf := h2) (hd := rfl) (ha := rfl), ?_⟩; simp (maxSteps := 4000000) only [go_sem, d, d2]))); refine hK _ ?_; clear hK K))
      simp (maxSteps := 4000000) only [go_sem]
def noBatch : Batch := ⟨0, 0, 0⟩
def batAt (k : Kitchen) (i : Nat) : Batch := k.batches.getD i noBatch
theorem z155 {k : Kitchen} {i : Nat} (h : i < k.batches.length) : (batRows k.batches)[i]? = some (batAt k i).row := by
  obtain ⟨x, hx⟩ : ∃ x, k.batches[i]? = some x := ⟨_, List.getElem?_eq_getElem h⟩
  rw [z268 hx, batAt, List.getD, hx]
  rfl
theorem z1127 (k : Kitchen) (a b : Nat) (ha : a < k.batches.length) (hb : b < k.batches.length) : Fn Try.prog 81 [.i (a : Int), .i (b : Int), .ptr k.cells 0] (.i (cmpI (batAt k a).last (batAt k b).last)) := by
  have h := z1126 (batAt k a).last (batAt k b).last
  have ga := z155 ha
  have gb := z155 hb
  have na : ¬ ((a : Int) < 0) := by omega
  have nb : ¬ ((b : Int) < 0) := by omega
  rw [Batch.row] at ga gb
  refine z18 21 Try.call81 Try.func81 rfl (by decide) fun J => ?_
  simp (maxSteps := 4000000) only [go_sem, St.start, Try.ntmps81, Try.results81, Kitchen.cells]
  repeat (first | refine nx ?_ | (refine z10 fun K hK => ?_; simp (maxSteps := 4000000) only [go_sem]; refine hK _ ?_; clear hK K))
  refine z17 (by kernel_rfl) (by kernel_rfl) fun K hK => ?_
  simp (maxSteps := 4000000) only [go_sem, ga, gb, na, nb]
  refine ⟨_, .fn (hf := h) (hd := rfl) (hr := .inl rfl), ?_⟩
  simp (maxSteps := 4000000) only [go_sem]
  refine ⟨by kernel_rfl, hK _ ?_⟩
  clear hK K
  repeat (first | refine nx ?_ | (refine z10 fun K hK => ?_; simp (maxSteps := 4000000) only [go_sem]; refine hK _ ?_; clear hK K))
  simp (maxSteps := 4000000) only [go_sem]
def swapN (L : List Nat) (j : Nat) : List Nat := (L.set (j + 1) (L.getD j 0)).set j (L.getD (j + 1) 0)
def sinkN (f : Nat → Int) : List Nat → Nat → List Nat
  | L, 0 => L
  | L, j + 1 => if f (L.getD (j + 1) 0) < f (L.getD j 0) then sinkN f (swapN L j) j else L
def insN (f : Nat → Int) (L : List Nat) : Nat → List Nat
  | 0 => L
  | i + 1 => sinkN f (insN f L i) (i + 1)
def natRows (L : List Nat) : List (List DV) := L.map fun (n : Nat) => [DV.i (n : Int)]
theorem z716 (L : List Nat) : (natRows L).length = L.length := by simp [natRows]
theorem z573 (L : List Nat) : headIs 1 (natRows L) = true := by cases L <;> rfl
theorem z94 {L : List Nat} {i : Nat} (h : i < L.length) : (natRows L)[i]? = some [.i ((L.getD i 0 : Nat) : Int)] := by
  obtain ⟨x, hx⟩ : ∃ x, L[i]? = some x := ⟨_, List.getElem?_eq_getElem h⟩
  rw [natRows, List.getElem?_map, hx, List.getD, hx]
  rfl
theorem z323 (L : List Nat) (i x : Nat) : (natRows L).set i [.i (x : Int)] = natRows (L.set i x) := by simp [natRows, List.map_set]
attribute [go_sem] z716 z573
theorem z157 (L : List Nat) (j : Nat) : (swapN L j).length = L.length := by simp [swapN]
theorem z306 {L : List Nat} {j : Nat} (hj : j + 1 < L.length) {x : Nat} (h : x ∈ swapN L j) : x ∈ L := by
  have g1 : L.getD j 0 ∈ L := by
    rw [List.getD, List.getElem?_eq_getElem (by omega)]
    exact List.getElem_mem _
  have g2 : L.getD (j + 1) 0 ∈ L := by
    rw [List.getD, List.getElem?_eq_getElem hj]
    exact List.getElem_mem _
  rcases List.mem_or_eq_of_mem_set h with h | h
  · rcases List.mem_or_eq_of_mem_set h with h | h
    · exact h
    · rw [h]; exact g1
  · rw [h]; exact g2
theorem z542 (f : Nat → Int) : ∀ (j : Nat) (L : List Nat), (sinkN f L j).length = L.length
  | 0, _ => rfl
  | j + 1, L => by
    rw [sinkN]
    split
    · rw [z542 f j, z157]
    · rfl
theorem z541 (f : Nat → Int) : ∀ (j : Nat) (L : List Nat), j < L.length → ∀ x ∈ sinkN f L j, x ∈ L
  | 0, _, _, _, h => h
  | j + 1, L, hj, x, h => by
    rw [sinkN] at h
    split at h
    · exact z306 hj (z541 f j _ (by rw [z157]; omega) x h)
    · exact h
theorem z146 (f : Nat → Int) (L : List Nat) : ∀ i, (insN f L i).length = L.length
  | 0 => rfl
  | i + 1 => by rw [insN, z542, z146 f L i]
theorem z228 (f : Nat → Int) (L : List Nat) : ∀ i, i < L.length ∨ i = 0 → ∀ x ∈ insN f L i, x ∈ L
  | 0, _, _, h => h
  | i + 1, hi, x, h => z228 f L i (by omega) x (z541 f (i + 1) _ (by rw [z146]; omega) x h)
def ordK (k : Kitchen) : List Nat := insN (fun i => (batAt k i).last) (List.range k.batches.length) (k.batches.length - 1)
theorem z180 (k : Kitchen) : (ordK k).length = k.batches.length := by rw [ordK, z146, List.length_range]
theorem z46 {k : Kitchen} {x : Nat} (h : x ∈ ordK k) : x < k.batches.length := List.mem_range.1 (z228 _ _ _ (by rw [List.length_range]; omega) x h)
theorem z1087 (k : Kitchen) (L : List Nat) (hL : ∀ x ∈ L, x < k.batches.length) (hl : L.length < 2 ^ 30) :
    FnG Try.prog 107 [.arr 3 1 (natRows L)] [0] [.own 0, .d (.i 0), .d (.i (L.length : Int)), .d (.fn 81 [.ptr k.cells 0])] (.tup []) [.arr 3 1 (natRows (insN (fun i => (batAt k i).last) L (L.length - 1)))] := by
  obtain ⟨f, hf⟩ : ∃ f : Nat → Int, f = fun i => (batAt k i).last := ⟨_, rfl⟩
  rw [← hf]
  have hcmp := fun a b ha hb => z1127 k a b ha hb
  have e1 : IntKind.i64.wrap (0 + 1) = ((0 + 1 : Nat) : Int) := by decide
  rw [Kitchen.cells] at hcmp
  rw [Kitchen.cells]
  have hcm : ∀ a b : Int, decide (cmpI a b < 0) = decide (a < b) := fun a b => by
    unfold cmpI
    split
    · simp [*]
    · split <;> simp [*]
  refine z64 53 Try.call107 Try.func107 rfl (by decide) [] [(0, 0)] (by simp only [List.length_cons, List.length_nil]; decide) (by kernel_rfl) fun J => ?_
  simp (maxSteps := 4000000) only [go_sem, St.startG, Try.ntmps107, Try.results107, List.map_cons, List.map_nil, List.range_succ]
  repeat (first | refine nx ?_ | (refine z10 fun K hK => ?_; simp (maxSteps := 4000000) only [go_sem, e1]; refine hK _ ?_; clear hK K))
  refine z15 (fun (a : Nat) => [(8, .d (.i ((a + 1 : Nat) : Int)))]) (fun a => [(53, some (.arr 3 1 (natRows (insN f L a))))]) (fun a => a = 0 ∨ a + 1 ≤ L.length) (fun a => L.length - a) 0 ?_ (.inl rfl) ?_
  · simp (maxSteps := 4000000) only [go_sem, insN]
    refine z13 [] ?_ ?_ rfl rfl <;> simp [lessT, lessM, lessB, AV.less]
    all_goals first | done | rfl
  · intro a ha
    have hAl := z146 f L a
    have hAm := z228 f L a (by omega)
    simp (maxSteps := 4000000) only [go_sem]
    repeat (first | refine nx ?_ | (refine z10 fun K hK => ?_; simp (maxSteps := 4000000) only [go_sem]; refine hK _ ?_; clear hK K))
    refine z14 rfl (fun hb => ?_) (fun hb => ?_)
    · have hlt : a + 1 < L.length := by have := of_decide_eq_true hb; omega
      have hw : IntKind.i64.wrap (((a + 1 : Nat) : Int) + 1) = ((a + 1 + 1 : Nat) : Int) := by rw [z16 (by omega)]; omega
      obtain ⟨A, hA⟩ : ∃ A, A = insN f L a := ⟨_, rfl⟩
      have hnx : insN f L (a + 1) = sinkN f A (a + 1) := by rw [insN, hA]
      rw [← hA] at hAl hAm ⊢
      repeat (first | refine nx ?_ | (refine z10 fun K hK => ?_; simp (maxSteps := 4000000) only [go_sem]; refine hK _ ?_; clear hK K))
      refine z15 (fun (q : Nat × List Nat) => [(9, .d (.i (q.1 : Int)))]) (fun q => [(53, some (.arr 3 1 (natRows q.2)))]) (fun q => q.1 ≤ a + 1 ∧ q.2.length = L.length ∧ (∀ x ∈ q.2, x < k.batches.length) ∧ sinkN f q.2 q.1 = sinkN f A (a + 1)) (fun q => q.1) (a + 1, A) ?_ ⟨Nat.le_refl _, hAl, fun x hx => hL x (hAm x hx), rfl⟩ ?_
      · simp (maxSteps := 4000000) only [go_sem]
        refine z13 [] ?_ ?_ rfl rfl <;> simp [lessT, lessM, lessB, AV.less]
        all_goals first | done | rfl
      · rintro ⟨j, cur⟩ ⟨hj, hcl, hcx, hsk⟩
        dsimp only at hj hcl hcx hsk
        have fin : ∀ X : List Nat, X = sinkN f A (a + 1) → natRows X = natRows (insN f L (a + 1)) := fun X h => by rw [hnx, h]
        cases j with
        | zero =>
          have hX : cur = insN f L (a + 1) := by rw [hnx, ← hsk]; rfl
          have d0 : decide ((0 : Int) > 0) = false := rfl
          simp (maxSteps := 4000000) only [go_sem]
          repeat (first | refine nx ?_ | (refine z10 fun K hK => ?_; simp (maxSteps := 4000000) only [go_sem]; refine hK _ ?_; clear hK K))
          refine z17 (by kernel_rfl) (by kernel_rfl) fun K hK => ?_
          simp (maxSteps := 4000000) only [go_sem, d0]
          refine ⟨by kernel_rfl, hK _ ?_⟩
          clear hK K
          repeat (first | refine z12 rfl ?_ | refine z11 rfl ?_ | refine nx ?_ | (refine z10 fun K hK => ?_; simp (maxSteps := 4000000) only [go_sem, hw]; refine hK _ ?_; clear hK K))
          refine ⟨rfl, a + 1, ?_, .inr (by omega), by omega⟩
          rw [hX]
          refine z13 [] ?_ ?_ rfl rfl <;> simp [lessT, lessM, lessB, AV.less]
          all_goals first | done | rfl
        | succ j =>
          have w1 : IntKind.i64.wrap (((j + 1 : Nat) : Int) - 1) = (j : Int) := by rw [z16 (by omega)]; omega
          have d1 : decide (((j + 1 : Nat) : Int) > 0) = true := decide_eq_true (by omega)
          have n1 : ¬ (((j + 1 : Nat) : Int) < 0) := by omega
          have n0 : ¬ ((j : Int) < 0) := by omega
          have k1 : j + 1 < cur.length := by omega
          have k0 : j < cur.length := by omega
          have g1 := z94 (L := cur) (i := j + 1) (by omega)
          have g0 := z94 (L := cur) (i := j) (by omega)
          obtain ⟨x, hx⟩ : ∃ x, cur.getD (j + 1) 0 = x := ⟨_, rfl⟩
          obtain ⟨y, hy⟩ : ∃ y, cur.getD j 0 = y := ⟨_, rfl⟩
          have hxm : x ∈ cur := by
            rw [← hx, List.getD, List.getElem?_eq_getElem (by omega : j + 1 < cur.length)]
            exact List.getElem_mem _
          have hym : y ∈ cur := by
            rw [← hy, List.getD, List.getElem?_eq_getElem (by omega : j < cur.length)]
            exact List.getElem_mem _
          rw [hx] at g1
          rw [hy] at g0
          have hc := hcmp x y (hcx x hxm) (hcx y hym)
          have hfx : (batAt k x).last = f x := by rw [hf]
          have hfy : (batAt k y).last = f y := by rw [hf]
          rw [hfx, hfy] at hc
          rw [sinkN, hx, hy] at hsk
          have hd := hcm (f x) (f y)
          obtain ⟨cv, hcv⟩ : ∃ cv, cv = cmpI (f x) (f y) := ⟨_, rfl⟩
          rw [← hcv] at hc hd
          by_cases hlt2 : f x < f y
          · rw [if_pos hlt2] at hsk
            rw [decide_eq_true hlt2] at hd
            obtain ⟨C1, hC1⟩ : ∃ C1, C1 = cur.set (j + 1) y := ⟨_, rfl⟩
            have su1 : (natRows cur).set (j + 1) [.i (y : Int)] = natRows C1 := by rw [z323, hC1]
            have hC1l : C1.length = cur.length := by rw [hC1]; simp
            have g2 : (natRows C1)[j]? = some [.i (y : Int)] := by
              have := z94 (L := C1) (i := j) (by omega)
              rw [this, hC1, List.getD, List.getElem?_set_ne (by omega), ← List.getD, hy]
            have su2 : (natRows C1).set j [.i (x : Int)] = natRows (swapN cur j) := by rw [z323, hC1, swapN, hx, hy]
            simp (maxSteps := 4000000) only [go_sem]
            repeat (first | refine nx ?_ | (refine z10 fun K hK => ?_; simp (maxSteps := 4000000) only [go_sem]; refine hK _ ?_; clear hK K))
            refine z17 (by kernel_rfl) (by kernel_rfl) fun K hK => ?_
            simp (maxSteps := 4000000) only [go_sem, d1, w1, n1, n0, k1, k0, g1, g0]
            refine ⟨_, .fn (hf := hc) (hd := rfl) (hr := .inl rfl), ?_⟩
            simp (maxSteps := 4000000) only [go_sem, hd]
            refine ⟨by kernel_rfl, hK _ ?_⟩
            clear hK K
            refine z12 rfl ?_
            repeat (first | refine nx ?_ | (refine z10 fun K hK => ?_; simp (maxSteps := 4000000) only [go_sem]; refine hK _ ?_; clear hK K))
            have k2 : j < C1.length := by omega
            refine z17 (by kernel_rfl) (by kernel_rfl) fun K hK => ?_
            simp (maxSteps := 4000000) only [go_sem, w1, n1, n0, k1, k0, k2, g1, g0, su1, g2, su2]
            refine ⟨by kernel_rfl, hK _ ?_⟩
            clear hK K
            repeat (first | refine nx ?_ | (refine z10 fun K hK => ?_; simp (maxSteps := 4000000) only [go_sem, w1]; refine hK _ ?_; clear hK K))
            refine ⟨rfl, (j, swapN cur j), ?_, ⟨by dsimp only; omega, by dsimp only; rw [z157]; exact hcl, fun z hz => hcx z (z306 (by omega) hz), hsk⟩, by dsimp only; omega⟩
            refine z13 [] ?_ ?_ rfl rfl <;> simp [lessT, lessM, lessB, AV.less]
            all_goals first | done | rfl
          · rw [if_neg hlt2] at hsk
            rw [decide_eq_false hlt2] at hd
            have hX : cur = insN f L (a + 1) := by rw [hnx, ← hsk]
            simp (maxSteps := 4000000) only [go_sem]
            repeat (first | refine nx ?_ | (refine z10 fun K hK => ?_; simp (maxSteps := 4000000) only [go_sem]; refine hK _ ?_; clear hK K))
            refine z17 (by kernel_rfl) (by kernel_rfl) fun K hK => ?_
            simp (maxSteps := 4000000) only [go_sem, d1, w1, n1, n0, k1, k0, g1, g0]
            refine ⟨_, .fn (hf := hc) (hd := rfl) (hr := .inl rfl), ?_⟩
            simp (maxSteps := 4000000) only [go_sem, hd]
            refine ⟨by kernel_rfl, hK _ ?_⟩
            clear hK K
            repeat (first | refine z12 rfl ?_ | refine z11 rfl ?_ | refine nx ?_ | (refine z10 fun K hK => ?_; simp (maxSteps := 4000000) only [go_sem, hw]; refine hK _ ?_; clear hK K))
            refine ⟨rfl, a + 1, ?_, .inr (by omega), by omega⟩
            rw [← hX]
            refine z13 [] ?_ ?_ rfl rfl <;> simp [lessT, lessM, lessB, AV.less]
            all_goals first | done | rfl
    · have he : a = L.length - 1 := by (have : ¬ a + 1 < L.length := by intro h; have := decide_eq_true (p := ((a + 1 : Nat) : Int) < (L.length : Int)) (by omega); rw [this] at hb; cases hb); omega
      subst he
      repeat (first | refine nx ?_ | (refine z10 fun K hK => ?_; simp (maxSteps := 4000000) only [go_sem]; refine hK _ ?_; clear hK K))
      simp (maxSteps := 4000000) only [go_sem, retG]
end Go.Ab
namespace Go.Ab
open Go.RowKit Go.Proofs
set_option maxHeartbeats 8000000
set_option maxRecDepth 20000
attribute [local irreducible] WalkL Walk
def sortK (k : Kitchen) (L : List Nat) : List Nat := insN (fun i => (batAt k i).last) L (L.length - 1)
theorem z574 (L : List Nat) : rowsFlat (natRows L) := by
  intro r hr d hd
  obtain ⟨x, _, rfl⟩ := List.mem_map.1 hr
  rw [List.mem_singleton.1 hd]
  rfl
theorem z1111 (k : Kitchen) (L : List Nat) (hL : ∀ x ∈ L, x < k.batches.length) (hl : L.length ≤ 10) :
    FnG Try.prog 99 [.arr 3 1 (natRows L)] [0] [.own 0, .d (.i (L.length : Int)), .d (.fn 81 [.ptr k.cells 0])] (.tup []) [.arr 3 1 (natRows (sortK k L))] := by
  have h := z1087 k L hL (by omega)
  change FnG Try.prog 107 _ _ _ _ [.arr 3 1 (natRows (sortK k L))] at h
  rw [Kitchen.cells] at h ⊢
  have d1 : decide ((20 : Int) ≤ (L.length : Int)) = false := decide_eq_false (by omega)
  have d2 : decide ((20 : Int) < (L.length : Int)) = false := decide_eq_false (by omega)
  obtain ⟨S, hS⟩ : ∃ S, S = sortK k L := ⟨_, rfl⟩
  rw [← hS] at h ⊢
  refine z64 63 Try.call99 Try.func99 rfl (by decide) [] [(0, 0)] (by simp only [List.length_cons, List.length_nil]; decide) (by kernel_rfl) fun J => ?_
  simp (maxSteps := 4000000) only [go_sem, St.startG, Try.ntmps99, Try.results99, List.map_cons, List.map_nil, List.range_succ]
  repeat (first | refine nx ?_ | (refine z10 fun K hK => ?_; simp (maxSteps := 4000000) only [go_sem]; refine hK _ ?_; clear hK K))
  refine z15 (fun (_ : Unit) => [(7, .d (.i 0)), (8, .d (.i 20))]) (fun _ => []) (fun _ => True) (fun _ => 0) () ?_ trivial ?_
  · simp (maxSteps := 4000000) only [go_sem]
    refine z13 [] ?_ ?_ rfl rfl <;> simp [lessT, lessM, lessB, AV.less]
  · intro _ _
    simp (maxSteps := 4000000) only [go_sem]
    repeat (first | refine z12 rfl ?_ | refine z11 rfl ?_ | refine nx ?_ | (refine z10 fun K hK => ?_; simp (maxSteps := 4000000) only [go_sem, d1]; refine hK _ ?_; clear hK K))
    refine z10 fun K hK => ?_
    simp (maxSteps := 4000000) only [go_sem]
    refine ⟨_, .own (ns := [63]) (news := []) (bads := []) (rd := []) (hf := h) (hnd := by decide) (hl0 := rfl) (hl1 := rfl) (hm := by repeat (first | exact trivial | refine And.intro ?_ ?_ | rfl)) (hnew := rfl) (hla := rfl) (ha := z31 (by repeat (first | exact trivial | refine And.intro ?_ ?_ | exact z35 rfl | exact z28 rfl rfl))) (hrd := rfl) (hsh := z29 _) (hb := rfl) (hfl := .inl rfl), ?_⟩
    simp (maxSteps := 4000000) only [go_sem, List.map_cons, List.map_nil]
    refine hK _ ?_
    clear hK K
    repeat (first | refine nx ?_ | (refine z10 fun K hK => ?_; simp (maxSteps := 4000000) only [go_sem]; refine hK _ ?_; clear hK K))
    refine z15 (fun (_ : Unit) => [(6, .d (.i 20))]) (fun _ => [(63, some (.arr 3 1 (natRows S)))]) (fun _ => True) (fun _ => 0) () ?_ trivial ?_
    · simp (maxSteps := 4000000) only [go_sem]
      refine z13 [] ?_ ?_ rfl rfl <;> simp [lessT, lessM, lessB, AV.less]
    · intro _ _
      simp (maxSteps := 4000000) only [go_sem]
      repeat (first | refine z12 rfl ?_ | refine z11 rfl ?_ | refine nx ?_ | (refine z10 fun K hK => ?_; simp (maxSteps := 4000000) only [go_sem, d2]; refine hK _ ?_; clear hK K))
      simp (maxSteps := 4000000) only [go_sem, retG]
theorem z1128 (k : Kitchen) (L : List Nat) (hL : ∀ x ∈ L, x < k.batches.length) (hl : L.length ≤ 10) :
    FnG Try.prog 80 [.arr 3 1 (natRows L)] [0] [.own 0, .d (.fn 81 [.ptr k.cells 0])] (.tup []) [.arr 3 1 (natRows (sortK k L))] := by
  have h := z1111 k L hL hl
  rw [Kitchen.cells] at h ⊢
  obtain ⟨S, hS⟩ : ∃ S, S = sortK k L := ⟨_, rfl⟩
  rw [← hS] at h ⊢
  refine z64 9 Try.call80 Try.func80 rfl (by decide) [] [(0, 0)] (by simp only [List.length_cons, List.length_nil]; decide) (by kernel_rfl) fun J => ?_
  simp (maxSteps := 4000000) only [go_sem, St.startG, Try.ntmps80, Try.results80, List.map_cons, List.map_nil, List.range_succ]
  repeat (first | refine nx ?_ | (refine z10 fun K hK => ?_; simp (maxSteps := 4000000) only [go_sem]; refine hK _ ?_; clear hK K))
  refine z10 fun K hK => ?_
  simp (maxSteps := 4000000) only [go_sem]
  refine ⟨_, .own (ns := [9]) (news := []) (bads := []) (rd := []) (hf := h) (hnd := by decide) (hl0 := rfl) (hl1 := rfl) (hm := by repeat (first | exact trivial | refine And.intro ?_ ?_ | rfl)) (hnew := rfl) (hla := rfl) (ha := z31 (by repeat (first | exact trivial | refine And.intro ?_ ?_ | exact z35 rfl | exact z28 rfl rfl))) (hrd := rfl) (hsh := z29 _) (hb := rfl) (hfl := .inl rfl), ?_⟩
  simp (maxSteps := 4000000) only [go_sem, List.map_cons, List.map_nil]
  refine hK _ ?_
  clear hK K
  repeat (first | refine nx ?_ | (refine z10 fun K hK => ?_; simp (maxSteps := 4000000) only [go_sem]; refine hK _ ?_; clear hK K))
  simp (maxSteps := 4000000) only [go_sem, retG]
def amtK (k : Kitchen) : List Int := k.batches.map (·.amount)
def lardRow (k : Kitchen) (l o : AV) (w : Int) : List AV := [.d (.sl (intRows k.allerg)), .d (.sl (batRows k.batches)), .d (.sl (dishRows k.dishes)), .d (.sl (dayRows k.days)), l, o, .d (.i w)]
theorem z1073 (k : Kitchen) (hb : k.batches.length ≤ 10) : FnG Try.prog 41 [] [] [.d (.agg k.cells)] (.box 0 0) [.box (lardRow k (.own 1) (.own 2) 0), .arr 3 1 (intRows (amtK k)), .arr 3 1 (natRows (ordK k))] := by
  have h := z1128 k (List.range k.batches.length) (fun x hx => List.mem_range.1 hx) (by simpa using hb)
  have hord : sortK k (List.range k.batches.length) = ordK k := by rw [sortK, ordK, List.length_range]
  rw [hord] at h
  obtain ⟨O, hO⟩ : ∃ O, O = ordK k := ⟨_, rfl⟩
  rw [← hO] at h ⊢
  rw [Kitchen.cells] at h
  refine z64 47 Try.call41 Try.func41 rfl (by decide) [8, 26, 36] [] (by simp only [List.length_cons, List.length_nil]; decide) (by kernel_rfl) fun J => ?_
  simp (maxSteps := 4000000) only [go_sem, St.startG, Try.ntmps41, Try.results41, List.map_cons, List.map_nil, List.range_succ,  Kitchen.cells, lardRow]
  repeat (first | refine nx ?_ | (refine z10 fun K hK => ?_; simp (maxSteps := 4000000) only [go_sem]; refine hK _ ?_; clear hK K))
  refine z15 (fun (i : Nat) => [(13, .d (.i (i : Int)))]) (fun i => [(8, some (.box (lardRow k (.own 26) (.own 36) 0))), (26, some (.arr 3 1 (intRows ((amtK k).take i)))), (36, some (.arr 3 1 (natRows (List.range i))))]) (fun i => i ≤ k.batches.length) (fun i => k.batches.length - i) 0 ?_ (Nat.zero_le _) ?_
  · simp (maxSteps := 4000000) only [go_sem, lardRow]
    refine z13 [26, 36] ?_ ?_ rfl rfl <;> simp [lessT, lessM, lessB, AV.less]
    all_goals first | done | rfl | exact ⟨rfl, rfl⟩ | trace_state
  · intro i hi
    simp (maxSteps := 4000000) only [go_sem, lardRow]
    repeat (first | refine nx ?_ | (refine z10 fun K hK => ?_; simp (maxSteps := 4000000) only [go_sem]; refine hK _ ?_; clear hK K))
    refine z14 rfl (fun hb2 => ?_) (fun hb2 => ?_)
    · have hlt : i < k.batches.length := by simpa using hb2
      have hw : IntKind.i64.wrap ((i : Int) + 1) = ((i + 1 : Nat) : Int) := by rw [z16 (by omega)]; simp
      have gb := z155 hlt
      rw [Batch.row] at gb
      obtain ⟨A, hA⟩ : ∃ A, A = (amtK k).take i := ⟨_, rfl⟩
      have hAl : A.length ≤ 10 := by rw [hA]; simp; omega
      have hn : A.length + 1 ≤ 549755813888 := by omega
      have hn2 : i + 1 ≤ 549755813888 := by omega
      have e1 : (amtK k).take (i + 1) = A ++ [(batAt k i).amount] := by
        obtain ⟨x, hx⟩ : ∃ x, k.batches[i]? = some x := ⟨_, List.getElem?_eq_getElem hlt⟩
        have hx2 : (amtK k)[i]? = some x.amount := by simp [amtK, hx]
        rw [List.take_add_one, hx2, ← hA, batAt, List.getD, hx]
        rfl
      have s1 : intRows A ++ [[.i (batAt k i).amount]] = intRows ((amtK k).take (i + 1)) := by rw [e1]; simp [intRows]
      have s2 : natRows (List.range i) ++ [[.i (i : Int)]] = natRows (List.range (i + 1)) := by rw [List.range_succ]; simp [natRows]
      rw [← hA]
      repeat (first | refine nx ?_ | (refine z10 fun K hK => ?_; simp (maxSteps := 4000000) only [go_sem, gb]; refine hK _ ?_; clear hK K))
      refine z275 (by kernel_rfl) (by kernel_rfl) fun K hK => ?_
      simp (maxSteps := 4000000) only [go_sem, hn, s1]
      refine ⟨by kernel_rfl, hK _ ?_⟩
      clear hK K
      repeat (first | refine nx ?_ | (refine z10 fun K hK => ?_; simp (maxSteps := 4000000) only [go_sem, hn2, List.length_range, s2, hw]; refine hK _ ?_; clear hK K))
      refine ⟨rfl, i + 1, ?_, hlt, by omega⟩
      simp (maxSteps := 4000000) only [go_sem, lardRow]
      refine z13 [] ?_ ?_ rfl rfl <;> simp [lessT, lessM, lessB, AV.less]
      all_goals first | done | rfl | exact ⟨rfl, rfl⟩ | trace_state
    · have he : i = k.batches.length := by (have : ¬ i < k.batches.length := by simpa using hb2); omega
      subst he
      have e1 : (amtK k).take k.batches.length = amtK k := by rw [amtK, List.take_of_length_le (by simp)]
      rw [e1]
      repeat (first | refine nx ?_ | (refine z10 fun K hK => ?_; simp (maxSteps := 4000000) only [go_sem]; refine hK _ ?_; clear hK K))
      refine z10 fun K hK => ?_
      simp (maxSteps := 4000000) only [go_sem]
      refine ⟨_, .own (ns := [36]) (news := []) (bads := []) (rd := [1]) (hf := h) (hnd := by decide) (hl0 := rfl) (hl1 := rfl) (hm := by repeat (first | exact trivial | refine And.intro ?_ ?_ | rfl)) (hnew := rfl) (hla := rfl) (ha := z31 (by repeat (first | exact trivial | refine And.intro ?_ ?_ | exact z35 rfl | exact z28 rfl rfl))) (hrd := rfl) (hsh := by intro n hn row hrow k hk; simp at hn; subst hn; simp at hrow; subst hrow; simp [AV.refs, AV.refs.AV.refss] at hk) (hb := rfl) (hfl := .inr ⟨rfl, by simp only [List.all_cons, List.all_nil, Bool.and_true]; exact z922 (z574 _)⟩), ?_⟩
      simp (maxSteps := 4000000) only [go_sem, List.map_cons, List.map_nil]
      refine hK _ ?_
      clear hK K
      repeat (first | refine nx ?_ | (refine z10 fun K hK => ?_; simp (maxSteps := 4000000) only [go_sem]; refine hK _ ?_; clear hK K))
      simp (maxSteps := 4000000) only [go_sem, retG, lardRow]
end Go.Ab
namespace Go.Ab
open Go.RowKit Go.Proofs
set_option maxHeartbeats 8000000
set_option maxRecDepth 20000
attribute [local irreducible] WalkL Walk
theorem z1048 (l : List Int) (hl : l.length < 2 ^ 30) : FnS Try.prog 77 [.sl (intRows l)] 3 1 (intRows l) := by
  have h1 : l.length ≤ 549755813888 := by omega
  have h2 : 0 + l.length ≤ 549755813888 := by omega
  cases l with
  | nil =>
    have e : intRows [] = [] := rfl
    rw [e]
    refine z229 8 Try.call77 Try.func77 rfl (by decide) fun J => ?_
    simp (maxSteps := 4000000) only [go_sem, St.start, Try.ntmps77, Try.results77]
    repeat (first | refine nx ?_ | (refine z10 fun K hK => ?_; simp (maxSteps := 4000000) only [go_sem, List.isEmpty_nil]; refine hK _ ?_; clear hK K))
    refine z858 rfl ?_ ?_
    · repeat (first | refine nx ?_ | (refine z10 fun K hK => ?_; simp (maxSteps := 4000000) only [go_sem]; refine hK _ ?_; clear hK K))
      simp (maxSteps := 4000000) only [go_sem]
    · repeat (first | refine nx ?_ | (refine z10 fun K hK => ?_; simp (maxSteps := 4000000) only [go_sem, List.nil_append, List.length_nil]; refine hK _ ?_; clear hK K))
      simp (maxSteps := 4000000) only [go_sem]
  | cons x l =>
    have hne : (intRows (x :: l)).isEmpty = false := rfl
    obtain ⟨L, hL⟩ : ∃ L, L = x :: l := ⟨_, rfl⟩
    rw [← hL] at hne h1 h2 ⊢
    refine z229 8 Try.call77 Try.func77 rfl (by decide) fun J => ?_
    simp (maxSteps := 4000000) only [go_sem, St.start, Try.ntmps77, Try.results77]
    repeat (first | refine nx ?_ | (refine z10 fun K hK => ?_; simp (maxSteps := 4000000) only [go_sem, hne]; refine hK _ ?_; clear hK K))
    refine z11 rfl ?_
    repeat (first | refine nx ?_ | (refine z10 fun K hK => ?_; simp (maxSteps := 4000000) only [go_sem, h1, h2, List.nil_append, List.length_nil]; refine hK _ ?_; clear hK K))
    simp (maxSteps := 4000000) only [go_sem]
def dinAt (k : Kitchen) (day group : Nat) : Diners := (k.days.getD day []).getD group ⟨0, ⟨0, 0⟩⟩
theorem z191 {k : Kitchen} {day : Nat} (h : day < k.days.length) : (dayRows k.days)[day]? = some [.sl (dinRows (k.days.getD day []))] := by
  obtain ⟨x, hx⟩ : ∃ x, k.days[day]? = some x := ⟨_, List.getElem?_eq_getElem h⟩
  rw [z69 hx, List.getD, hx]
  rfl
theorem z761 {k : Kitchen} {day group : Nat} (h : group < (k.days.getD day []).length) : (dinRows (k.days.getD day []))[group]? = some (dinAt k day group).row := by
  unfold dinAt
  obtain ⟨D, hD⟩ : ∃ D, D = k.days.getD day [] := ⟨_, rfl⟩
  rw [← hD] at h ⊢
  obtain ⟨x, hx⟩ : ∃ x, D[group]? = some x := ⟨_, List.getElem?_eq_getElem h⟩
  rw [z68 hx, List.getD, hx]
  rfl
theorem z1082 (k : Kitchen) (day group : Nat) (hd : day < k.days.length) (hg : group < (k.days.getD day []).length) : Fn Try.prog 46 [.agg k.cells, .i (day : Int), .i (group : Int)] (.i (dinAt k day group).count.hi) := by
  have g1 := z191 hd
  have g2 := z761 hg
  have n1 : ¬ ((day : Int) < 0) := by omega
  have n2 : ¬ ((group : Int) < 0) := by omega
  rw [Diners.row] at g2
  refine z18 18 Try.call46 Try.func46 rfl (by decide) fun J => ?_
  simp (maxSteps := 4000000) only [go_sem, St.start, Try.ntmps46, Try.results46, Kitchen.cells]
  repeat (first | refine nx ?_ | (refine z10 fun K hK => ?_; simp (maxSteps := 4000000) only [go_sem, g1, g2, n1, n2]; refine hK _ ?_; clear hK K))
  simp (maxSteps := 4000000) only [go_sem]
def clrTo (k : Kitchen) (day : Int) (l : List Int) (w : Int) : Nat → List Int × Int
  | 0 => (l, w)
  | j + 1 => if (batAt k j).last < day then ((clrTo k day l w j).1.set j 0, (clrTo k day l w j).2 + getI (clrTo k day l w j).1 (j : Int)) else clrTo k day l w j
theorem z39 (k : Kitchen) (day : Int) (l : List Int) (w : Int) : ∀ j, (clrTo k day l w j).1.length = l.length
  | 0 => rfl
  | j + 1 => by
    rw [clrTo]
    split
    · simp [z39 k day l w j]
    · exact z39 k day l w j
def AmtOk (l : List Int) : Prop := ∀ x ∈ l, 0 ≤ x ∧ x ≤ 9000000
theorem AmtOk.get {l : List Int} (h : AmtOk l) (i : Int) : 0 ≤ getI l i ∧ getI l i ≤ 9000000 := z80 h (by decide) i
theorem AmtOk.set {l : List Int} (h : AmtOk l) (i : Nat) {x : Int} (hx : 0 ≤ x ∧ x ≤ 9000000) : AmtOk (l.set i x) := fun y hy => by
  rcases List.mem_or_eq_of_mem_set hy with hy | rfl
  · exact h y hy
  · exact hx
theorem z47 {k : Kitchen} {day : Int} {l : List Int} {w : Int} (h : AmtOk l) : ∀ j, AmtOk (clrTo k day l w j).1 ∧ w ≤ (clrTo k day l w j).2 ∧ (clrTo k day l w j).2 ≤ w + 9000000 * j
  | 0 => ⟨h, Int.le_refl _, by simp [clrTo]⟩
  | j + 1 => by
    obtain ⟨h1, h2, h3⟩ := z47 (k := k) (day := day) (w := w) h j
    rw [clrTo]
    split
    · have := h1.get (j : Int)
      refine ⟨h1.set j (by decide), ?_, ?_⟩ <;> dsimp only <;> omega
    · exact ⟨h1, h2, by omega⟩
theorem z1045 (k : Kitchen) (hb : k.batches.length ≤ 10) (day : Int) (l : List Int) (o : List Nat) (w : Int) (hl : l.length = k.batches.length) (ha : AmtOk l) (hw0 : 0 ≤ w ∧ w ≤ 2 ^ 40) :
    FnG Try.prog 42 [.box (lardRow k (.own 1) (.own 2) w), .arr 3 1 (intRows l), .arr 3 1 (natRows o)] [0] [.box 0 0, .d (.i day)] (.tup [])
      [.box (lardRow k (.own 1) (.own 2) (clrTo k day l w k.batches.length).2), .arr 3 1 (intRows (clrTo k day l w k.batches.length).1), .arr 3 1 (natRows o)] := by
  have hst0 : clrTo k day l w 0 = (l, w) := rfl
  obtain ⟨R, hR⟩ : ∃ R, R = clrTo k day l w := ⟨_, rfl⟩
  have hRl : ∀ j, (R j).1.length = l.length := by rw [hR]; exact z39 k day l w
  have hRo : ∀ j, AmtOk (R j).1 ∧ w ≤ (R j).2 ∧ (R j).2 ≤ w + 9000000 * j := by rw [hR]; exact z47 ha
  have hRs : ∀ j, R (j + 1) = if (batAt k j).last < day then ((R j).1.set j 0, (R j).2 + getI (R j).1 (j : Int)) else R j := by rw [hR]; exact fun j => rfl
  rw [← hR] at hst0
  rw [show clrTo k day l w = R from hR.symm]
  refine z64 43 Try.call42 Try.func42 rfl (by decide) [] [(0, 0)] (by simp only [List.length_cons, List.length_nil]; decide) (by kernel_rfl) fun J => ?_
  simp (maxSteps := 4000000) only [go_sem, St.startG, Try.ntmps42, Try.results42, List.map_cons, List.map_nil, List.range_succ,  lardRow]
  repeat (first | refine nx ?_ | (refine z10 fun K hK => ?_; simp (maxSteps := 4000000) only [go_sem]; refine hK _ ?_; clear hK K))
  refine z15 (fun (i : Nat) => [(13, .d (.i (i : Int)))]) (fun i => [(43, some (.box (lardRow k (.own 44) (.own 45) (R i).2))), (44, some (.arr 3 1 (intRows (R i).1)))]) (fun i => i ≤ k.batches.length) (fun i => k.batches.length - i) 0 ?_ (Nat.zero_le _) ?_
  · rw [hst0]
    simp (maxSteps := 4000000) only [go_sem, lardRow]
    refine z13 [] ?_ ?_ rfl rfl <;> simp [lessT, lessM, lessB, AV.less]
    all_goals first | done | rfl | trace_state
  · intro i hi
    have hAl := hRl i
    obtain ⟨hok, hw1, hw2⟩ := hRo i
    have hnx := hRs i
    obtain ⟨⟨A, v⟩, hAv⟩ : ∃ p, R i = p := ⟨_, rfl⟩
    rw [hAv] at hAl hok hw1 hw2 hnx ⊢
    dsimp only at hAl hok hw1 hw2 hnx ⊢
    simp (maxSteps := 4000000) only [go_sem, lardRow]
    repeat (first | refine nx ?_ | (refine z10 fun K hK => ?_; simp (maxSteps := 4000000) only [go_sem]; refine hK _ ?_; clear hK K))
    refine z14 rfl (fun hb2 => ?_) (fun hb2 => ?_)
    · have hlt : i < k.batches.length := by simpa using hb2
      have hw : IntKind.i64.wrap ((i : Int) + 1) = ((i + 1 : Nat) : Int) := by rw [z16 (by omega)]; simp
      have gb := z155 hlt
      rw [Batch.row] at gb
      have hni : ¬ ((i : Int) < 0) := by omega
      have hiA : i < A.length := by omega
      have gA := z21 hiA
      have hg := hok.get (i : Int)
      have e1 : IntKind.i64.wrap (v + getI A (i : Int)) = v + getI A (i : Int) := z16 (by omega)
      have su : (intRows A).set i [.i 0] = intRows (A.set i 0) := z43 A i 0
      by_cases hq : (batAt k i).last < day
      · rw [if_pos hq] at hnx
        have d : decide ((batAt k i).last < day) = true := decide_eq_true hq
        repeat (first | refine z12 rfl ?_ | refine z11 rfl ?_ | refine nx ?_ | (refine z10 fun K hK => ?_; simp (maxSteps := 4000000) only [go_sem, gb, d]; refine hK _ ?_; clear hK K))
        refine z17 (by kernel_rfl) (by kernel_rfl) fun K hK => ?_
        simp (maxSteps := 4000000) only [go_sem, hni, hiA, gA, e1]
        refine ⟨by kernel_rfl, hK _ ?_⟩
        clear hK K
        repeat (first | refine nx ?_ | (refine z10 fun K hK => ?_; simp (maxSteps := 4000000) only [go_sem, hni, hiA, gA, su, hw]; refine hK _ ?_; clear hK K))
        refine ⟨rfl, i + 1, ?_, hlt, by omega⟩
        rw [hnx]
        simp (maxSteps := 4000000) only [go_sem, lardRow]
        refine z13 [] ?_ ?_ rfl rfl <;> simp [lessT, lessM, lessB, AV.less]
        all_goals first | done | rfl | trace_state
      · rw [if_neg hq] at hnx
        have d : decide ((batAt k i).last < day) = false := decide_eq_false hq
        repeat (first | refine z12 rfl ?_ | refine z11 rfl ?_ | refine nx ?_ | (refine z10 fun K hK => ?_; simp (maxSteps := 4000000) only [go_sem, gb, d, hw]; refine hK _ ?_; clear hK K))
        refine ⟨rfl, i + 1, ?_, hlt, by omega⟩
        rw [hnx]
        simp (maxSteps := 4000000) only [go_sem, lardRow]
        refine z13 [] ?_ ?_ rfl rfl <;> simp [lessT, lessM, lessB, AV.less]
        all_goals first | done | rfl | trace_state
    · have he : i = k.batches.length := by (have : ¬ i < k.batches.length := by simpa using hb2); omega
      subst he
      rw [hAv]
      repeat (first | refine nx ?_ | (refine z10 fun K hK => ?_; simp (maxSteps := 4000000) only [go_sem]; refine hK _ ?_; clear hK K))
      simp (maxSteps := 4000000) only [go_sem, retG, lardRow]
end Go.Ab
namespace Go.Ab
open Go.RowKit Go.Proofs
set_option maxHeartbeats 16000000
set_option maxRecDepth 20000
attribute [local irreducible] WalkL Walk
def needG (k : Kitchen) (ds : List Int) (cnt : Nat → Int) (good : Nat) : Nat → Int
  | 0 => 0
  | g + 1 => needG k ds cnt good g + getI (dishAt k (getI ds (g : Int))).needs (good : Int) * cnt g
def needL (k : Kitchen) (ds : List Int) (cnt : Nat → Int) : List Int := (List.range k.allerg.length).map fun x => needG k ds cnt x ds.length
theorem z348 {k : Kitchen} (hg : KitWide k) {n : Nat} (h : n < k.dishes.length) (i : Int) : 0 ≤ getI (dishAt k (n : Int)).needs i ∧ getI (dishAt k (n : Int)).needs i ≤ 5000 := by
  obtain ⟨x, hx⟩ : ∃ x, k.dishes[n]? = some x := ⟨_, List.getElem?_eq_getElem h⟩
  have : dishAt k (n : Int) = x := by rw [dishAt, Int.toNat_natCast, List.getD, hx]; rfl
  rw [this]
  exact z80 (hg.needs x (List.mem_of_getElem? hx)).2 (by decide) i
structure DayOk (k : Kitchen) (ds : List Int) (cnt : Nat → Int) : Prop where
  len : ds.length ≤ 3
  dish : ∀ g < ds.length, ∃ n : Nat, ds[g]? = some (n : Int) ∧ n < k.dishes.length
  cnt : ∀ g < ds.length, 0 ≤ cnt g ∧ cnt g ≤ 100
theorem z129 {k : Kitchen} (hg : KitWide k) {ds : List Int} {cnt : Nat → Int} (hd : DayOk k ds cnt) (good : Nat) : ∀ g : Nat, g ≤ ds.length → 0 ≤ needG k ds cnt good g ∧ needG k ds cnt good g ≤ 500000 * g
  | 0, _ => by simp [needG]
  | g + 1, h => by
    have ih := z129 hg hd good g (by omega)
    obtain ⟨n, hn, hnl⟩ := hd.dish g (by omega)
    have hc := hd.cnt g (by omega)
    have e : getI ds (g : Int) = n := by rw [getI, Int.toNat_natCast, List.getD, hn]; rfl
    have q := z348 hg hnl (good : Int)
    have m1 : 0 ≤ getI (dishAt k (n : Int)).needs (good : Int) * cnt g := Int.mul_nonneg q.1 hc.1
    have m2 : getI (dishAt k (n : Int)).needs (good : Int) * cnt g ≤ 5000 * 100 := Int.mul_le_mul q.2 hc.2 hc.1 (by decide)
    rw [needG, e]
    omega
def mixL (G : Nat) (a b : Nat → Int) (j : Nat) : List Int := (List.range G).map fun x => if x < j then b x else a x
theorem z294 (G : Nat) (a b : Nat → Int) (j : Nat) : (mixL G a b j).length = G := by simp [mixL]
theorem z1022 (G : Nat) (a b : Nat → Int) {j : Nat} (h : j < G) : (mixL G a b j)[j]? = some (a j) := by simp [mixL, h]
theorem z976 (G : Nat) (a b : Nat → Int) {j : Nat} (h : j < G) : (mixL G a b j).set j (b j) = mixL G a b (j + 1) := by
  refine List.ext_getElem? fun i => ?_
  rw [List.getElem?_set, z294]
  by_cases hi : i < G
  · by_cases he : j = i
    · subst he
      rw [if_pos rfl, if_pos hi]
      simp [mixL, hi]
    · rw [if_neg he]
      have : (i < j + 1) = (i < j) := by apply propext; omega
      simp [mixL, hi, this]
  · rw [List.getElem?_eq_none (l := mixL G a b (j + 1)) (by rw [z294]; omega)]
    by_cases he : j = i
    · omega
    · rw [if_neg he, List.getElem?_eq_none (by rw [z294]; omega)]
theorem z977 (G : Nat) (a b : Nat → Int) : mixL G a b G = (List.range G).map b := by
  unfold mixL
  refine List.map_congr_left fun x hx => ?_
  rw [if_pos (List.mem_range.1 hx)]
theorem z903 (G : Nat) (a b : Nat → Int) : mixL G a b 0 = (List.range G).map a := by
  unfold mixL
  refine List.map_congr_left fun x hx => ?_
  rw [if_neg (by omega)]
theorem z1044 (k : Kitchen) (hg : KitWide k) (ds : List Int) (cnt : Nat → Int) (g : Nat) (caps : List DV) (hd : DayOk k ds cnt) (hc : ∀ j, j < ds.length → Fn Try.prog g (.i (j : Int) :: caps) (.i (cnt j))) :
    FnS Try.prog 44 [.agg k.cells, .sl (intRows ds), .fn g caps] 3 1 (intRows (needL k ds cnt)) := by
  have hgo := hg.goods
  have hdl := hd.len
  have hmk : (k.allerg.length : Int) ≤ 1099511627776 := by omega
  have hrep := z145 k.allerg.length
  unfold needL
  obtain ⟨G, hG⟩ : ∃ G, G = k.allerg.length := ⟨_, rfl⟩
  obtain ⟨f, hf⟩ : ∃ f : Nat → Nat → Int, f = fun i x => needG k ds cnt x i := ⟨_, rfl⟩
  have hf0 : intRows (List.replicate G 0) = intRows ((List.range G).map (f 0)) := by
    rw [hf]
    congr 1
    refine List.ext_getElem? fun i => ?_
    by_cases hi : i < G <;> simp [hi, needG, List.getElem?_replicate]
  have hfr : ∀ i x, i ≤ ds.length → 0 ≤ f i x ∧ f i x ≤ 500000 * i := fun i x hi => by rw [hf]; exact z129 hg hd x i hi
  have hfs : ∀ i x, f (i + 1) x = f i x + getI (dishAt k (getI ds (i : Int))).needs (x : Int) * cnt i := fun i x => by rw [hf]; rfl
  rw [show (fun x => needG k ds cnt x ds.length) = f ds.length by rw [hf]]
  rw [← hG] at hmk hrep hgo ⊢
  refine z229 51 Try.call44 Try.func44 rfl (by decide) fun J => ?_
  simp (maxSteps := 4000000) only [go_sem, St.start, Try.ntmps44, Try.results44, Kitchen.cells]
  repeat (first | refine nx ?_ | (refine z10 fun K hK => ?_; simp (maxSteps := 4000000) only [go_sem, ← hG, hmk, hrep]; refine hK _ ?_; clear hK K))
  refine z15 (fun (i : Nat) => [(19, .d (.i (i : Int)))]) (fun i => [(16, some (.arr 3 1 (intRows ((List.range G).map (f i)))))]) (fun i => i ≤ ds.length) (fun i => ds.length - i) 0 ?_ (Nat.zero_le _) ?_
  · rw [← hf0]
    simp (maxSteps := 4000000) only [go_sem]
    refine z13 [] ?_ ?_ rfl rfl <;> simp [lessT, lessM, lessB, AV.less]
    all_goals first | done | rfl | trace_state
  · intro i hi
    simp (maxSteps := 4000000) only [go_sem]
    repeat (first | refine nx ?_ | (refine z10 fun K hK => ?_; simp (maxSteps := 4000000) only [go_sem]; refine hK _ ?_; clear hK K))
    refine z14 rfl (fun hb => ?_) (fun hb => ?_)
    · have hlt : i < ds.length := by simpa using hb
      have hw : IntKind.i64.wrap ((i : Int) + 1) = ((i + 1 : Nat) : Int) := by rw [z16 (by omega)]; simp
      obtain ⟨n, hn, hnl⟩ := hd.dish i hlt
      have g1 := z37 hn
      have gd := z495 hnl
      have hl := z298 hg hnl
      have hnn : ¬ ((n : Int) < 0) := by omega
      have hci := hc i hlt
      have hcr := hd.cnt i hlt
      have e : getI ds (i : Int) = n := by rw [getI, Int.toNat_natCast, List.getD, hn]; rfl
      have hq := fun x : Nat => z348 hg hnl (x : Int)
      have hfi := hfs i
      rw [e] at hfi
      obtain ⟨N, hN⟩ : ∃ N, N = (dishAt k (n : Int)).needs := ⟨_, rfl⟩
      rw [← hN, ← hG] at hl
      rw [← hN] at gd
      rw [← hN] at hq hfi
      repeat (first | refine nx ?_ | (refine z10 fun K hK => ?_; simp (maxSteps := 4000000) only [go_sem, g1, gd, hnn, hl]; refine hK _ ?_; clear hK K))
      have m0 := z903 G (f i) (f (i + 1))
      refine z15 (fun (j : Nat) => [(32, .d (.i (j : Int)))]) (fun j => [(16, some (.arr 3 1 (intRows (mixL G (f i) (f (i + 1)) j))))]) (fun j => j ≤ G) (fun j => G - j) 0 ?_ (Nat.zero_le _) ?_
      · rw [m0]
        simp (maxSteps := 4000000) only [go_sem]
        refine z13 [] ?_ ?_ rfl rfl <;> simp [lessT, lessM, lessB, AV.less]
        all_goals first | done | rfl | trace_state
      · intro j hj
        have hMl := z294 G (f i) (f (i + 1)) j
        simp (maxSteps := 4000000) only [go_sem]
        repeat (first | refine nx ?_ | (refine z10 fun K hK => ?_; simp (maxSteps := 4000000) only [go_sem, hl]; refine hK _ ?_; clear hK K))
        refine z14 rfl (fun hb => ?_) (fun hb => ?_)
        · have hltj : j < G := by simpa using hb
          have hwj : IntKind.i64.wrap ((j : Int) + 1) = ((j + 1 : Nat) : Int) := by rw [z16 (by omega)]; simp
          have hnj : ¬ ((j : Int) < 0) := by omega
          have gN := z21 (l := N) (i := j) (by omega)
          have gM := z37 (z1022 G (f i) (f (i + 1)) hltj)
          have r1 := hfr i j (by omega)
          have r2 := hq j
          have m1 : 0 ≤ getI N (j : Int) * cnt i := Int.mul_nonneg r2.1 hcr.1
          have m2 : getI N (j : Int) * cnt i ≤ 5000 * 100 := Int.mul_le_mul r2.2 hcr.2 hcr.1 (by decide)
          have e1 : IntKind.i64.wrap (getI N (j : Int) * cnt i) = getI N (j : Int) * cnt i := z16 (by omega)
          have e2 : IntKind.i64.wrap (f i j + getI N (j : Int) * cnt i) = f (i + 1) j := by rw [z16 (by omega), hfi j]
          have su : (intRows (mixL G (f i) (f (i + 1)) j)).set j [.i (f (i + 1) j)] = intRows (mixL G (f i) (f (i + 1)) (j + 1)) := by rw [z43, z976 _ _ _ hltj]
          obtain ⟨M, hM⟩ : ∃ M, M = mixL G (f i) (f (i + 1)) j := ⟨_, rfl⟩
          rw [← hM] at gM su hMl ⊢
          have hjM : j < M.length := by omega
          repeat (first | refine nx ?_ | (refine z10 fun K hK => ?_; simp (maxSteps := 4000000) only [go_sem, gN]; refine hK _ ?_; clear hK K))
          refine z17 (by kernel_rfl) (by kernel_rfl) fun K hK => ?_
          simp (maxSteps := 4000000) only [go_sem, gM, hjM, hnj]
          refine ⟨_, .fn (hf := hci) (hd := z49 _ _ _ _ rfl) (hr := .inl rfl), ?_⟩
          simp (maxSteps := 4000000) only [go_sem, gM, hjM, hnj, e1, e2, su]
          refine ⟨by kernel_rfl, hK _ ?_⟩
          clear hK K
          repeat (first | refine nx ?_ | (refine z10 fun K hK => ?_; simp (maxSteps := 4000000) only [go_sem, hwj]; refine hK _ ?_; clear hK K))
          refine ⟨rfl, j + 1, ?_, hltj, by omega⟩
          refine z13 [] ?_ ?_ rfl rfl <;> simp [lessT, lessM, lessB, AV.less]
          all_goals first | done | rfl | trace_state
        · have he : j = G := by (have : ¬ j < G := by simpa using hb); omega
          subst he
          rw [z977]
          repeat (first | refine nx ?_ | (refine z10 fun K hK => ?_; simp (maxSteps := 4000000) only [go_sem, hw]; refine hK _ ?_; clear hK K))
          refine ⟨rfl, i + 1, ?_, hlt, by omega⟩
          refine z13 [] ?_ ?_ rfl rfl <;> simp [lessT, lessM, lessB, AV.less]
          all_goals first | done | rfl | trace_state
    · have he : i = ds.length := by (have : ¬ i < ds.length := by simpa using hb); omega
      subst he
      repeat (first | refine nx ?_ | (refine z10 fun K hK => ?_; simp (maxSteps := 4000000) only [go_sem]; refine hK _ ?_; clear hK K))
      simp (maxSteps := 4000000) only [go_sem]
end Go.Ab
