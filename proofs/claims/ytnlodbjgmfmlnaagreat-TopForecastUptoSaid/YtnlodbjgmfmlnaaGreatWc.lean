/- A walk engine over abstract states, and the contracts of the functions that the statement reaches: part 3. -/
import Derived.Test.YtnlodbjgmfmlnaaGreatWb
import Derived.Test.YtnlodbjgmfmlnaaGreatProg
set_option linter.unusedVariables false
set_option linter.unusedSimpArgs false
set_option linter.unnecessarySimpa false
/- Drawn regions in which something is appended: what named the array before is forgotten. -/
namespace Go.Ab
open Go.RowKit
def AV.whole : AV → Bool
  | .undef => false
  | .agg cs | .tup cs | .fn _ cs => AV.wholes cs
  | _ => true
where AV.wholes : List AV → Bool
  | [] => true
  | x :: xs => x.whole && AV.wholes xs
def AV.lose (n : Nat) (x : AV) : AV := x.sub n fun _ => .undef
mutual
theorem lose_same (n : Nat) : ∀ (x : AV), n ∉ x.refs → x.sub n (fun _ => .undef) = x
  | .box k o, h => by simp only [AV.refs, List.mem_singleton] at h; simp only [AV.sub]; rw [if_neg (fun e => h e.symm)]
  | .elem k i o, h => by simp only [AV.refs, List.mem_singleton] at h; simp only [AV.sub]; rw [if_neg (fun e => h e.symm)]
  | .own k, h => by simp only [AV.refs, List.mem_singleton] at h; simp only [AV.sub]; rw [if_neg (fun e => h e.symm)]
  | .view k o l, h => by simp only [AV.refs, List.mem_singleton] at h; simp only [AV.sub]; rw [if_neg (fun e => h e.symm)]
  | .bsl k l, h => by simp only [AV.refs, List.mem_singleton] at h; simp only [AV.sub]; rw [if_neg (fun e => h e.symm)]
  | .mp k, h => by simp only [AV.refs, List.mem_singleton] at h; simp only [AV.sub]; rw [if_neg (fun e => h e.symm)]
  | .vh k l, h => by simp only [AV.refs, List.mem_singleton] at h; simp only [AV.sub]; rw [if_neg (fun e => h e.symm)]
  | .vc k l, h => by simp only [AV.refs, List.mem_singleton] at h; simp only [AV.sub]; rw [if_neg (fun e => h e.symm)]
  | .agg cs, h => by simp only [AV.sub]; rw [loses_same n cs (by simpa [AV.refs] using h)]
  | .tup cs, h => by simp only [AV.sub]; rw [loses_same n cs (by simpa [AV.refs] using h)]
  | .fn f cs, h => by simp only [AV.sub]; rw [loses_same n cs (by simpa [AV.refs] using h)]
  | .undef, _ => rfl
  | .void, _ => rfl
  | .d _, _ => rfl
  | .nil, _ => rfl
  | .dfull _, _ => rfl
theorem loses_same (n : Nat) : ∀ (l : List AV), n ∉ AV.refs.AV.refss l → AV.sub.AV.subs n (fun _ => .undef) l = l
  | [], _ => rfl
  | x :: xs, h => by
    simp only [AV.refs.AV.refss, List.mem_append, not_or] at h
    simp only [AV.sub.AV.subs]
    rw [lose_same n x h.1, loses_same n xs h.2]
end
mutual
theorem lose_whole (n : Nat) : ∀ (x : AV), (x.sub n (fun _ => .undef)).whole = true → n ∉ x.refs
  | .box k o, h => by
    simp only [AV.sub] at h
    split at h
    · simp [AV.whole] at h
    · rename_i hk; simp only [AV.refs, List.mem_singleton]; exact fun e => hk e.symm
  | .elem k i o, h => by
    simp only [AV.sub] at h
    split at h
    · simp [AV.whole] at h
    · rename_i hk; simp only [AV.refs, List.mem_singleton]; exact fun e => hk e.symm
  | .own k, h => by
    simp only [AV.sub] at h
    split at h
    · simp [AV.whole] at h
    · rename_i hk; simp only [AV.refs, List.mem_singleton]; exact fun e => hk e.symm
  | .view k o l, h => by
    simp only [AV.sub] at h
    split at h
    · simp [AV.whole] at h
    · rename_i hk; simp only [AV.refs, List.mem_singleton]; exact fun e => hk e.symm
  | .bsl k l, h => by
    simp only [AV.sub] at h
    split at h
    · simp [AV.whole] at h
    · rename_i hk; simp only [AV.refs, List.mem_singleton]; exact fun e => hk e.symm
  | .mp k, h => by
    simp only [AV.sub] at h
    split at h
    · simp [AV.whole] at h
    · rename_i hk; simp only [AV.refs, List.mem_singleton]; exact fun e => hk e.symm
  | .vh k l, h => by
    simp only [AV.sub] at h
    split at h
    · simp [AV.whole] at h
    · rename_i hk; simp only [AV.refs, List.mem_singleton]; exact fun e => hk e.symm
  | .vc k l, h => by
    simp only [AV.sub] at h
    split at h
    · simp [AV.whole] at h
    · rename_i hk; simp only [AV.refs, List.mem_singleton]; exact fun e => hk e.symm
  | .dfull _, _ => by simp [AV.refs]
  | .agg cs, h => by simp only [AV.refs]; exact loses_whole n cs (by simpa [AV.sub, AV.whole] using h)
  | .tup cs, h => by simp only [AV.refs]; exact loses_whole n cs (by simpa [AV.sub, AV.whole] using h)
  | .fn f cs, h => by simp only [AV.refs]; exact loses_whole n cs (by simpa [AV.sub, AV.whole] using h)
  | .undef, _ => by simp [AV.refs]
  | .void, _ => by simp [AV.refs]
  | .d _, _ => by simp [AV.refs]
  | .nil, _ => by simp [AV.refs]
theorem loses_whole (n : Nat) : ∀ (l : List AV), AV.whole.AV.wholes (AV.sub.AV.subs n (fun _ => .undef) l) = true → n ∉ AV.refs.AV.refss l
  | [], _ => by simp [AV.refs.AV.refss]
  | x :: xs, h => by
    simp only [AV.sub.AV.subs, AV.whole.AV.wholes, Bool.and_eq_true] at h
    simp only [AV.refs.AV.refss, List.mem_append, not_or]
    exact ⟨lose_whole n x h.1, loses_whole n xs h.2⟩
end
mutual
theorem sub_same (n : Nat) (f : AV → AV) : ∀ (x : AV), n ∉ x.refs → x.sub n f = x
  | .box k o, h => by simp only [AV.refs, List.mem_singleton] at h; simp only [AV.sub]; rw [if_neg (fun e => h e.symm)]
  | .elem k i o, h => by simp only [AV.refs, List.mem_singleton] at h; simp only [AV.sub]; rw [if_neg (fun e => h e.symm)]
  | .own k, h => by simp only [AV.refs, List.mem_singleton] at h; simp only [AV.sub]; rw [if_neg (fun e => h e.symm)]
  | .view k o l, h => by simp only [AV.refs, List.mem_singleton] at h; simp only [AV.sub]; rw [if_neg (fun e => h e.symm)]
  | .bsl k l, h => by simp only [AV.refs, List.mem_singleton] at h; simp only [AV.sub]; rw [if_neg (fun e => h e.symm)]
  | .mp k, h => by simp only [AV.refs, List.mem_singleton] at h; simp only [AV.sub]; rw [if_neg (fun e => h e.symm)]
  | .vh k l, h => by simp only [AV.refs, List.mem_singleton] at h; simp only [AV.sub]; rw [if_neg (fun e => h e.symm)]
  | .vc k l, h => by simp only [AV.refs, List.mem_singleton] at h; simp only [AV.sub]; rw [if_neg (fun e => h e.symm)]
  | .agg cs, h => by simp only [AV.sub]; rw [subs_same n f cs (by simpa [AV.refs] using h)]
  | .tup cs, h => by simp only [AV.sub]; rw [subs_same n f cs (by simpa [AV.refs] using h)]
  | .fn g cs, h => by simp only [AV.sub]; rw [subs_same n f cs (by simpa [AV.refs] using h)]
  | .undef, _ => rfl
  | .void, _ => rfl
  | .d _, _ => rfl
  | .nil, _ => rfl
  | .dfull _, _ => rfl
theorem subs_same (n : Nat) (f : AV → AV) : ∀ (l : List AV), n ∉ AV.refs.AV.refss l → AV.sub.AV.subs n f l = l
  | [], _ => rfl
  | x :: xs, h => by
    simp only [AV.refs.AV.refss, List.mem_append, not_or] at h
    simp only [AV.sub.AV.subs]
    rw [sub_same n f x h.1, subs_same n f xs h.2]
end
mutual
theorem lose_gone (n : Nat) : ∀ (x : AV), n ∉ (x.sub n (fun _ => .undef)).refs
  | .box k o => by simp only [AV.sub]; split <;> simp_all [AV.refs, eq_comm]
  | .elem k i o => by simp only [AV.sub]; split <;> simp_all [AV.refs, eq_comm]
  | .own k => by simp only [AV.sub]; split <;> simp_all [AV.refs, eq_comm]
  | .view k o l => by simp only [AV.sub]; split <;> simp_all [AV.refs, eq_comm]
  | .bsl k l => by simp only [AV.sub]; split <;> simp_all [AV.refs, eq_comm]
  | .mp k => by simp only [AV.sub]; split <;> simp_all [AV.refs, eq_comm]
  | .vh k l => by simp only [AV.sub]; split <;> simp_all [AV.refs, eq_comm]
  | .vc k l => by simp only [AV.sub]; split <;> simp_all [AV.refs, eq_comm]
  | .dfull _ => by simp [AV.sub, AV.refs]
  | .agg cs => by simp only [AV.sub, AV.refs]; exact loses_gone n cs
  | .tup cs => by simp only [AV.sub, AV.refs]; exact loses_gone n cs
  | .fn g cs => by simp only [AV.sub, AV.refs]; exact loses_gone n cs
  | .undef => by simp [AV.sub, AV.refs]
  | .void => by simp [AV.sub, AV.refs]
  | .d _ => by simp [AV.sub, AV.refs]
  | .nil => by simp [AV.sub, AV.refs]
theorem loses_gone (n : Nat) : ∀ (l : List AV), n ∉ AV.refs.AV.refss (AV.sub.AV.subs n (fun _ => .undef) l)
  | [] => by simp [AV.sub.AV.subs, AV.refs.AV.refss]
  | x :: xs => by
    simp only [AV.sub.AV.subs, AV.refs.AV.refss, List.mem_append, not_or]
    exact ⟨lose_gone n x, loses_gone n xs⟩
end
theorem StRel.rename0 {P : Program} {base out : Own} {st : St} {μ : Pl} {tmps : Array Value} {w : World} (h : StRel P base out st μ tmps w) {n : Nat} (hn : μ n = none) (hl : n < st.m.length) (e z : Nat) :
    ∃ μ', StRel P base out { t := st.t, m := st.m.set n (some (.arr e z [])) } μ' tmps w ∧ ∀ b, ownOf out μ' b → ownOf out μ b := by
  have hown : ∀ b, ownOf out (μ.upd n (some .none0)) b → ownOf out μ b := by
    rintro b (hb | ⟨k, z, l, c, hb⟩)
    · exact .inl hb
    · by_cases hk : k = n
      · subst hk; rw [Pl.upd_same] at hb; cases hb
      · rw [Pl.upd_ne μ _ hk] at hb; exact .inr ⟨k, z, l, c, hb⟩
  have hg : Goes w (ownOf out μ) w (ownOf out (μ.upd n (some .none0))) := fun b o v h1 h2 => ⟨fun hc => h1 (hown b hc), h2⟩
  have hμ : ∀ k, (μ k).isSome → μ.upd n (some .none0) k = μ k := fun k hk => Pl.upd_ne μ _ (fun e => by subst e; rw [hn] at hk; cases hk)
  refine ⟨μ.upd n (some .none0), ⟨h.size, fun i x v h1 h2 => (h.tmp i x v h1 h2).goes hg (fun n _ hs => hμ n hs), ⟨fun k b hk => ?_, fun k hk => ?_, fun k q b z l c z' l' c' h1 h2 => ?_, fun k b z l c hb => ?_⟩, h.hid.less hown, h.out, h.le⟩, hown⟩
  · rw [List.getElem?_set] at hk
    by_cases hkn : n = k
    · subst hkn
      rw [if_pos rfl, if_pos hl] at hk
      cases hk
      exact .inl ⟨Pl.upd_same μ n _, rfl⟩
    · rw [if_neg hkn] at hk
      exact (h.mem.blk k b hk).goes hg (Pl.upd_ne μ _ (Ne.symm hkn)) hμ (fun _ _ _ _ _ => rfl)
  · rw [List.getElem?_set]
    by_cases hkn : n = k
    · subst hkn; exact ⟨.arr e z [], by rw [if_pos rfl, if_pos hl]⟩
    · rw [if_neg hkn]
      rw [Pl.upd_ne μ _ (Ne.symm hkn)] at hk
      exact h.mem.dom k hk
  · by_cases hk : k = n
    · subst hk; rw [Pl.upd_same] at h1; cases h1
    · by_cases hq : q = n
      · subst hq; rw [Pl.upd_same] at h2; cases h2
      · rw [Pl.upd_ne μ _ hk] at h1
        rw [Pl.upd_ne μ _ hq] at h2
        exact h.mem.inj k q b z l c z' l' c' h1 h2
  · by_cases hk : k = n
    · subst hk; rw [Pl.upd_same] at hb; cases hb
    · rw [Pl.upd_ne μ _ hk] at hb
      exact h.mem.base k b z l c hb
def killT : Option Nat → List AV → List AV
  | none, t => t
  | some n, t => t.map (AV.sub n fun _ => .undef)
def killM : Option Nat → List (Option Blk) → List (Option Blk)
  | none, m => m
  | some n, m => subMem n (fun _ => .undef) m
def St.applyA (st : St) (dst : Option Tmp) (e : Eff) (k : Option Nat) : St := ({ t := killT k st.t, m := killM k st.m } : St).apply dst e
def appOf (P : Program) (st : St) (dst : Option Tmp) (t t' : TypeId) (s x : AV) : Option (Eff × Option Nat) := if t' = t then match dst, tslice P t with
  | some d, some e => match tsz P e, tbytes P e, (tzero P e).map (·.cells.size), elemsOf st x with
    | some z, some by_, some zl, some xs => if zl = z ∧ 0 < z ∧ 0 < by_ ∧ by_ ≤ 2 ^ 7 ∧ headIs z xs then (match s with
        | .nil => match st.fresh d with
          | true => if xs.length ≤ 2 ^ 39 then some (⟨.own d, some (d, .arr e z xs)⟩, none) else none
          | _ => none
        | .own n => match st.m[n]? with
          | some (some (.arr e' z' rows)) => if e' = e ∧ z' = z ∧ rows.length + xs.length ≤ 2 ^ 39 then some (⟨.own n, some (n, .arr e z (rows ++ xs))⟩, some n) else none
          | _ => none
        | .vc n len => match st.m[n]? with
          | some (some (.arrP e' z' rows)) => if e' = e ∧ z' = z ∧ rows.length = len ∧ xs.length = 1 then some (⟨.vh n (len + 1), some (n, .arrP e z (rows ++ xs))⟩, none) else none
          | _ => none
        | .dfull rows => match st.fresh d with
          | true => if rows.length + xs.length ≤ 2 ^ 39 ∧ 0 < rows.length ∧ 0 < xs.length ∧ headIs z rows then some (⟨.own d, some (d, .arr e z (rows ++ xs))⟩, none) else none
          | _ => none
        | _ => none) else none
    | _, _, _, _ => none
  | _, _ => none else none
def boxTab : List (Option Blk) → Nat → List (Nat × List Nat)
  | [], _ => []
  | some (.box row) :: l, i => (i, AV.refs.AV.refss row) :: boxTab l (i + 1)
  | none :: l, i => boxTab l (i + 1)
  | some (.arr ..) :: l, i => boxTab l (i + 1)
  | some (.mp ..) :: l, i => boxTab l (i + 1)
  | some (.arrP ..) :: l, i => boxTab l (i + 1)
inductive EffA (P : Program) (o : Oper) (st : St) : Eff → Option Nat → Prop where
  | old (e : Eff) (h : EffR P o st e) : EffA P o st e none
  | app (t t' : TypeId) (s x : Operand) (e : Eff) (k : Option Nat) (ho : o.op = .call { callee := .builtin .append, args := #[s, x], argTypes := #[t, t'] })
      (h : appOf P st o.dst t t' (st.ev s) (st.ev x) = some (e, k)) : EffA P o st e k
  | appR (t t' : TypeId) (s x : Operand) (d n : Nat) (el z : Nat) (rows : List (List DV)) (hd : o.dst = some d) (hl : n < st.m.length) (hdl : d < st.t.length) (ho : o.op = .call { callee := .builtin .append, args := #[s, x], argTypes := #[t, t'] })
      (h : appOf P st o.dst t t' (st.ev s) (st.ev x) = some (⟨.own n, some (n, .arr el z rows)⟩, some n)) : EffA P o st ⟨.d (.sl rows), some (n, .arr el z [])⟩ (some n)
  | litD (d : Nat) (e z : Nat) (rows : List (List DV)) (t : TypeId) (len : Nat) (parts : Array (Nat × Operand)) (ho : o.op = .buildSlice t len parts) (hd : o.dst = some d) (hf : st.fresh d = true) (hdl : d < st.t.length)
      (h : opBuildSlice P st t len (parts.toList.map fun p => (p.1, st.ev p.2)) = some (.arr e z rows)) (hr : AV.refsAll (parts.toList.map fun p => st.ev p.2) = []) : EffA P o st ⟨.d (.sl rows), none⟩ none
theorem boxTab_mem : ∀ (m : List (Option Blk)) (i j : Nat) (row : List AV), m[j]? = some (some (.box row)) → (i + j, AV.refs.AV.refss row) ∈ boxTab m i
  | [], _, _, _, h => by simp at h
  | none :: l, i, j, row, h => by
    cases j with
    | zero => simp at h
    | succ j => simp only [boxTab]; rw [show i + (j + 1) = i + 1 + j by omega]; exact boxTab_mem l (i + 1) j row (by simpa using h)
  | some (.arr _ _ _) :: l, i, j, row, h => by
    cases j with
    | zero => simp at h
    | succ j => simp only [boxTab]; rw [show i + (j + 1) = i + 1 + j by omega]; exact boxTab_mem l (i + 1) j row (by simpa using h)
  | some (.arrP _ _ _) :: l, i, j, row, h => by
    cases j with
    | zero => simp at h
    | succ j => simp only [boxTab]; rw [show i + (j + 1) = i + 1 + j by omega]; exact boxTab_mem l (i + 1) j row (by simpa using h)
  | some (.mp _ _ _) :: l, i, j, row, h => by
    cases j with
    | zero => simp at h
    | succ j => simp only [boxTab]; rw [show i + (j + 1) = i + 1 + j by omega]; exact boxTab_mem l (i + 1) j row (by simpa using h)
  | some (.box r) :: l, i, j, row, h => by
    cases j with
    | zero => simp at h; subst h; simp [boxTab]
    | succ j => simp only [boxTab, List.mem_cons]; rw [show i + (j + 1) = i + 1 + j by omega]; exact .inr (boxTab_mem l (i + 1) j row (by simpa using h))
mutual
theorem lose_sub (n : Nat) : ∀ (x : AV), ∀ k ∈ (x.sub n (fun _ => .undef)).refs, k ∈ x.refs
  | .box k o, q, h => by simp only [AV.sub] at h; split at h <;> simp_all [AV.refs]
  | .elem k i o, q, h => by simp only [AV.sub] at h; split at h <;> simp_all [AV.refs]
  | .own k, q, h => by simp only [AV.sub] at h; split at h <;> simp_all [AV.refs]
  | .view k o l, q, h => by simp only [AV.sub] at h; split at h <;> simp_all [AV.refs]
  | .bsl k l, q, h => by simp only [AV.sub] at h; split at h <;> simp_all [AV.refs]
  | .mp k, q, h => by simp only [AV.sub] at h; split at h <;> simp_all [AV.refs]
  | .vh k l, q, h => by simp only [AV.sub] at h; split at h <;> simp_all [AV.refs]
  | .vc k l, q, h => by simp only [AV.sub] at h; split at h <;> simp_all [AV.refs]
  | .agg cs, q, h => by simp only [AV.sub, AV.refs] at h ⊢; exact loses_sub n cs q h
  | .tup cs, q, h => by simp only [AV.sub, AV.refs] at h ⊢; exact loses_sub n cs q h
  | .fn f cs, q, h => by simp only [AV.sub, AV.refs] at h ⊢; exact loses_sub n cs q h
  | .undef, _, h => h
  | .void, _, h => h
  | .d _, _, h => h
  | .nil, _, h => h
  | .dfull _, _, h => h
theorem loses_sub (n : Nat) : ∀ (l : List AV), ∀ k ∈ AV.refs.AV.refss (AV.sub.AV.subs n (fun _ => .undef) l), k ∈ AV.refs.AV.refss l
  | [], _, h => h
  | x :: xs, q, h => by
    simp only [AV.sub.AV.subs, AV.refs.AV.refss, List.mem_append] at h ⊢
    rcases h with h | h
    · exact .inl (lose_sub n x q h)
    · exact .inr (loses_sub n xs q h)
end
theorem Blk.lose_same {n : Nat} {b : Blk} (h : ∀ row, b = .box row → n ∉ AV.refs.AV.refss row) : b.sub n (fun _ => .undef) = b := by
  cases b with
  | box row => simp only [Blk.sub]; rw [← AV.subs_eq, loses_same n row (h row rfl)]
  | arr => rfl
  | mp => rfl
  | arrP => rfl
theorem killM_at {k : Option Nat} {m : List (Option Blk)} {q : Nat} (h : ∀ n row, k = some n → m[q]? = some (some (.box row)) → n ∉ AV.refs.AV.refss row) : (killM k m)[q]? = m[q]? := by
  cases k with
  | none => rfl
  | some n =>
    simp only [killM, subMem_get]
    cases hm : m[q]? with
    | none => rfl
    | some ob =>
      cases ob with
      | none => rfl
      | some b => simp only [Option.map_some]; rw [Blk.lose_same fun row hb => h n row rfl (by rw [hm, hb])]
theorem subMem_set {n : Nat} {m : List (Option Blk)} {q : Nat} {b : Blk} (h : ∀ row, b = .box row → n ∉ AV.refs.AV.refss row) : subMem n (fun _ => .undef) (m.set q (some b)) = (subMem n (fun _ => .undef) m).set q (some b) := by
  apply List.ext_getElem?
  intro i
  have hl : (subMem n (fun _ => AV.undef) m).length = m.length := by
    have : ∀ m : List (Option Blk), (subMem n (fun _ => AV.undef) m).length = m.length := by
      intro m
      induction m with
      | nil => rfl
      | cons x xs ih => cases x <;> simp [subMem, ih]
    exact this m
  rw [subMem_get, List.getElem?_set, List.getElem?_set, subMem_get, hl]
  by_cases hq : q = i
  · subst hq
    rw [if_pos rfl, if_pos rfl]
    split
    · simp only [Option.map_some]; rw [Blk.lose_same h]
    · rfl
  · rw [if_neg hq, if_neg hq]
section
variable {P : Program} {ops : Array Oper} {o : Oper} {s st : St}
theorem appOf_step {t t' : TypeId} {s x : Operand} {e : Eff} {k : Option Nat} (ho : o.op = .call { callee := .builtin .append, args := #[s, x], argTypes := #[t, t'] })
    (h : appOf P st o.dst t t' (st.ev s) (st.ev x) = some (e, k)) : stepOp P o st = some (st.applyA o.dst e k) := by
  unfold stepOp
  rw [ho]
  simp only [List.map_cons, List.map_nil]
  unfold appOf at h
  unfold opAppend
  split at h
  · rename_i htt
    rw [if_pos htt]
    split at h
    · rename_i d e' hd he
      rw [hd, he]
      simp only
      split at h
      · rename_i z by_ zl xs h1 h2 h3 h4
        rw [h1, h2, h3, h4]
        simp only
        split at h
        · rename_i hc
          rw [if_pos hc]
          split at h
          · rename_i hs
            rw [hs]
            simp only
            split at h
            · rename_i hfr
              rw [hfr]
              simp only
              split at h
              · rename_i hl
                rw [if_pos hl]
                cases h
                rfl
              · cases h
            · cases h
          · rename_i n hs
            rw [hs]
            simp only
            split at h
            · rename_i e2 z2 rows hm
              rw [hm]
              simp only
              split at h
              · rename_i hl
                rw [if_pos hl]
                cases h
                rfl
              · cases h
            · cases h
          · rename_i n len hs
            rw [hs]
            simp only
            split at h
            · rename_i e2 z2 rows hm
              rw [hm]
              simp only
              split at h
              · rename_i hl
                rw [if_pos hl]
                cases h
                rfl
              · cases h
            · cases h
          · rename_i rows hs
            rw [hs]
            simp only
            split at h
            · rename_i hfr
              rw [hfr]
              simp only
              split at h
              · rename_i hl
                rw [if_pos hl]
                cases h
                rfl
              · cases h
            · cases h
          · cases h
        · cases h
      · cases h
    · cases h
  · cases h
theorem EffA.step {e : Eff} {k : Option Nat} (h : EffA P o st e k) : StepR P o st (st.applyA o.dst e k) := by
  cases h with
  | old e h => exact h.step
  | app t t' s x _ _ ho h => exact .inr (.inl ⟨by simp [isCall, ho], appOf_step ho h⟩)
  | appR t t' s x d n el z rows hd hl hdl ho h =>
    refine .inr (.inr ⟨by simp [isCall, ho], _, appOf_step ho h, fun base out μ tmps w μ1 tmps1 w1 _ h1 => ?_⟩)
    have hn1 : (st.applyA o.dst ⟨.own n, some (n, .arr el z rows)⟩ (some n)).m[n]? = some (some (.arr el z rows)) := by
      have : (killM (some n) st.m).length = st.m.length := by
        have : ∀ m : List (Option Blk), (subMem n (fun _ => AV.undef) m).length = m.length := by
          intro m
          induction m with
          | nil => rfl
          | cons x xs ih => cases x <;> simp [subMem, ih]
        exact this _
      simp only [St.applyA, St.apply]
      rw [List.getElem?_set_self (by rw [this]; exact hl)]
    obtain ⟨μ2, h2, _, hless, hgone⟩ := h1.release n
    obtain ⟨μ3, h3, hless3⟩ := h2.rename0 (hgone ⟨_, hn1⟩) (by
      have := (List.getElem?_eq_some_iff.1 hn1).1
      unfold St.release
      rw [hn1]
      have e : ∀ (f : AV → AV) (m : List (Option Blk)), (subMem n f m).length = m.length := by
        intro f m
        induction m with
        | nil => rfl
        | cons x xs ih => cases x <;> simp [subMem, ih]
      simp only [e, List.length_set]
      exact this) el z
    refine ⟨μ3, ?_, fun b hb => hless b (hless3 b hb)⟩
    have key : ({ t := ((st.applyA o.dst ⟨.own n, some (n, .arr el z rows)⟩ (some n)).release n).t, m := ((st.applyA o.dst ⟨.own n, some (n, .arr el z rows)⟩ (some n)).release n).m.set n (some (.arr el z [])) } : St) = st.applyA o.dst ⟨.d (.sl rows), some (n, .arr el z [])⟩ (some n) := by
      have e1 : (st.applyA o.dst ⟨.own n, some (n, .arr el z rows)⟩ (some n)).release n = { t := (st.applyA o.dst ⟨.own n, some (n, .arr el z rows)⟩ (some n)).t.map (AV.sub n (snapLeaf (.arr el z rows))), m := subMem n (snapLeaf (.arr el z rows)) ((st.applyA o.dst ⟨.own n, some (n, .arr el z rows)⟩ (some n)).m.set n none) } := by
        unfold St.release
        rw [hn1]
      rw [e1]
      have ht : (st.applyA o.dst ⟨.own n, some (n, .arr el z rows)⟩ (some n)).t.map (AV.sub n (snapLeaf (.arr el z rows))) = (st.applyA o.dst ⟨.d (.sl rows), some (n, .arr el z [])⟩ (some n)).t := by
        rw [hd]
        simp only [St.applyA, St.apply, St.put, killT, List.map_set, List.map_map]
        have : (AV.sub n (snapLeaf (.arr el z rows)) ∘ AV.sub n fun _ => AV.undef) = AV.sub n fun _ => AV.undef := funext fun x => sub_same n _ _ (lose_gone n x)
        rw [this]
        simp [AV.sub, snapLeaf]
      have hm : (subMem n (snapLeaf (.arr el z rows)) ((st.applyA o.dst ⟨.own n, some (n, .arr el z rows)⟩ (some n)).m.set n none)).set n (some (.arr el z [])) = (st.applyA o.dst ⟨.d (.sl rows), some (n, .arr el z [])⟩ (some n)).m := by
        simp only [St.applyA, St.apply, killM, List.set_set]
        apply List.ext_getElem?
        intro i
        have hlen : ∀ (f : AV → AV) (m : List (Option Blk)), (subMem n f m).length = m.length := by
          intro f m
          induction m with
          | nil => rfl
          | cons x xs ih => cases x <;> simp [subMem, ih]
        rw [List.getElem?_set, List.getElem?_set, hlen, List.length_set]
        by_cases hi : n = i
        · rw [if_pos hi, if_pos hi]
        · rw [if_neg hi, if_neg hi, subMem_get, List.getElem?_set_ne hi, subMem_get]
          cases st.m[i]? with
          | none => rfl
          | some ob =>
            cases ob with
            | none => rfl
            | some b =>
              cases b with
              | box row =>
                simp only [Option.map_some, Blk.sub]
                rw [← AV.subs_eq, ← AV.subs_eq, subs_same n _ _ (loses_gone n row)]
              | arr => rfl
              | mp => rfl
              | arrP => rfl
      rw [ht, hm]
    rw [← key]
    exact h3
  | litD d e z rows t len parts ho hd hf hdl h hr =>
    have hst : stepOp P o st = some (st.addBlk d (.own d) (.arr e z rows)) := by
      have := (EffR.lit (P := P) d e z rows t len parts ho hd hf h hr)
      have hps : (parts.toList.map fun p => (p.1, st.ev p.2)).map (·.2) = parts.toList.map fun p => st.ev p.2 := by simp [Function.comp_def]
      unfold stepOp
      rw [ho]
      simp only [h, hd, Option.getD_some, hf, hps, hr]
      rfl
    refine .inr (.inr ⟨by simp [isCall, ho], _, hst, fun base out μ tmps w μ1 tmps1 w1 h0 h1 => ?_⟩)
    have hfr := fresh_spec hf
    have hl : d < st.m.length := (List.getElem?_eq_some_iff.1 hfr).1
    have hn1 : (st.addBlk d (.own d) (.arr e z rows)).m[d]? = some (some (.arr e z rows)) := by simp only [St.addBlk]; rw [List.getElem?_set_self hl]
    obtain ⟨μ2, h2, _, hless, hgone⟩ := h1.release d
    refine ⟨μ2, ?_, hless⟩
    have hnp := notPlaced h0.mem hfr
    have norefs : ∀ (i : Nat) x, st.t[i]? = some x → d ∉ x.refs := fun i x hx hc => by
      have hi : i < tmps.size := by rw [h0.size]; exact (List.getElem?_eq_some_iff.1 hx).1
      have := (h0.tmp i x tmps[i] hx (by simp [hi])).placed d hc
      rw [hnp] at this; cases this
    have norefm : ∀ (i : Nat) row, st.m[i]? = some (some (.box row)) → d ∉ AV.refs.AV.refss row := fun i row hrow hc => by
      obtain ⟨b, cs, ty, q1, q2, q3, q4⟩ := h0.mem.box hrow
      have many : ∀ (l : List AV), d ∈ AV.refs.AV.refss l → ∃ (j : Nat) (x : AV), l[j]? = some x ∧ d ∈ x.refs := by
        intro l
        induction l with
        | nil => intro h; simp [AV.refs.AV.refss] at h
        | cons y ys ih =>
          intro h
          simp only [AV.refs.AV.refss, List.mem_append] at h
          rcases h with h | h
          · exact ⟨0, y, rfl, h⟩
          · obtain ⟨j, x, h1, h2⟩ := ih h; exact ⟨j + 1, x, by simpa using h1, h2⟩
      obtain ⟨j, x, hx, hdx⟩ := many row hc
      have hj : j < cs.size := Nat.lt_of_lt_of_le (List.getElem?_eq_some_iff.1 hx).1 q3
      have := (q4 j x cs[j] hx (by simp [hj])).2.placed d hdx
      rw [hnp] at this; cases this
    have key : (st.addBlk d (.own d) (.arr e z rows)).release d = st.applyA o.dst ⟨.d (.sl rows), none⟩ none := by
      have e1 : (st.addBlk d (.own d) (.arr e z rows)).release d = { t := (st.addBlk d (.own d) (.arr e z rows)).t.map (AV.sub d (snapLeaf (.arr e z rows))), m := subMem d (snapLeaf (.arr e z rows)) ((st.addBlk d (.own d) (.arr e z rows)).m.set d none) } := by
        unfold St.release
        rw [hn1]
      rw [e1, hd]
      simp only [St.addBlk, St.applyA, St.apply, St.put, killT, killM, List.map_set, List.set_set]
      have ht : st.t.map (AV.sub d (snapLeaf (.arr e z rows))) = st.t := by
        apply List.ext_getElem?
        intro i
        rw [List.getElem?_map]
        cases hx : st.t[i]? with
        | none => rfl
        | some x => simp only [Option.map_some]; rw [sub_same d _ x (norefs i x hx)]
      have hm : subMem d (snapLeaf (.arr e z rows)) (st.m.set d none) = st.m := by
        apply List.ext_getElem?
        intro i
        rw [subMem_get, List.getElem?_set]
        by_cases hi : d = i
        · subst hi
          rw [if_pos rfl, if_pos hl, hfr]
          rfl
        · rw [if_neg hi]
          cases hx : st.m[i]? with
          | none => rfl
          | some ob =>
            cases ob with
            | none => rfl
            | some b =>
              cases b with
              | box row => simp only [Option.map_some, Blk.sub]; rw [← AV.subs_eq, subs_same d _ row (norefm i row hx)]
              | arr => rfl
              | mp => rfl
              | arrP => rfl
      rw [ht, hm]
      simp [AV.sub, snapLeaf]
    rw [← key]
    exact h2
theorem appOf_local {s s' : St} {dst : Option Tmp} {t t' : TypeId} {a x : AV} (h : Agree (a.refs ++ x.refs ++ dst.toList) s.m s'.m) : appOf P s dst t t' a x = appOf P s' dst t t' a x := by
  unfold appOf
  rw [elemsOf_local (st' := s') (h.mono fun n hn => by simp [hn])]
  cases dst with
  | none => rfl
  | some d =>
    have hfr := fresh_agree (s := s) (s' := s') (h d (by simp))
    cases a with
    | own n => simp only [h n (by simp [AV.refs])]
    | vc n len => simp only [h n (by simp [AV.refs])]
    | dfull rows =>
      split
      · split
        · rename_i hd _
          cases hd
          split
          · split
            · rw [hfr]
            · rfl
          · rfl
        · rfl
      · rfl
    | nil =>
      split
      · split
        · rename_i hd _
          cases hd
          split
          · split
            · rw [hfr]
            · rfl
          · rfl
        · rfl
      · rfl
    | _ => rfl
def EffGA (P : Program) (ops : Array Oper) (o : Oper) (s : St) (e : Eff) (k : Option Nat) : Prop := match guardT ops o with
  | none => False
  | some none => EffA P o s e k
  | some (some (t, want)) => (s.ev (.tmp t) = .d (.bool want) ∧ EffA P o s e k) ∨ ((s.ev (.tmp t) = .d (.bool (!want)) ∨ s.ev (.tmp t) = .void) ∧ e = ⟨.void, none⟩ ∧ k = none)
theorem EffGA.step {e : Eff} {k : Option Nat} (h : EffGA P ops o s e k) : StepG P ops o s (s.applyA o.dst e k) := by
  unfold EffGA at h
  unfold StepG
  unfold guardT at h
  cases hg : o.guard with
  | none => rw [hg] at h; exact h.step
  | some gw =>
    obtain ⟨j, want⟩ := gw
    rw [hg] at h
    simp only at h ⊢
    cases ht : (ops[j]?).bind (·.dst) with
    | none => rw [ht] at h; exact h.elim
    | some t =>
      rw [ht] at h
      refine ⟨t, rfl, ?_⟩
      rcases h with ⟨h1, h2⟩ | ⟨h1, rfl, rfl⟩
      · exact .inl ⟨h1, h2.step⟩
      · exact .inr ⟨h1, by cases o.dst <;> rfl⟩
structure RecA where
  i : Nat
  e : Eff
  k : Option Nat
  N : List Nat
  R : List Nat
  u : Bool
def boxE (e : Eff) : List Nat := match e.m with
  | some (_, .box row) => AV.refs.AV.refss row
  | _ => []
structure LocalA (P : Program) (ops : Array Oper) (o : Oper) (s : St) (r : RecA) : Prop where
  eff : EffGA P ops o s r.e r.k
  loc : ∀ s' : St, (∀ t ∈ o.looksAt ops, s.ev (.tmp t) = s'.ev (.tmp t)) → s.t.length = s'.t.length → s.m.length = s'.m.length → Agree r.N s.m s'.m → EffGA P ops o s' r.e r.k
  look : ∀ t ∈ o.looksAt ops, ∀ n ∈ (s.ev (.tmp t)).refs, n ∈ r.R
  whole : r.u = true → ∀ t ∈ o.looksAt ops, (s.ev (.tmp t)).whole = true
  val : ∀ n ∈ r.e.v.refs, n ∈ r.R
inductive ChainA (P : Program) (ops : Array Oper) : List RecA → St → St → Prop where
  | nil (s : St) : ChainA P ops [] s s
  | cons {r : RecA} {rs : List RecA} {s s' : St} {o : Oper} (ho : ops[r.i]? = some o) (hd : dstOk o = true) (h : LocalA P ops o s r) (ht : ChainA P ops rs (s.applyA o.dst r.e r.k) s') : ChainA P ops (r :: rs) s s'
def missB (k : Option Nat) (R : List Nat) : Bool := match k with
  | none => true
  | some n => !R.contains n
abbrev KeyA := Nat × List Nat × List Nat × Option Nat × List Nat × Bool × List Nat
def RecA.key (r : RecA) : KeyA := (r.i, r.e.name, r.N, r.k, r.R, r.u, boxE r.e)
def clearB (Bf : Nat → List Nat) (k : Option Nat) (b : KeyA) : Bool := match k with
  | none => true
  | some n => (Bf n).all fun q => !(b.2.2.1.contains q || b.2.1.contains q)
def indepA (ops : Array Oper) (Bf : Nat → List Nat) (a b : KeyA) : Bool := indepB ops (a.1, a.2.1, a.2.2.1) (b.1, b.2.1, b.2.2.1) &&
  ((a.2.2.2.1.isNone || (b.2.2.2.2.2.1 && missB a.2.2.2.1 b.2.2.2.2.1)) && ((missB b.2.2.2.1 a.2.2.2.2.1 && (a.2.2.2.1.isNone || b.2.2.2.1.isNone)) && (clearB Bf a.2.2.2.1 b && clearB Bf b.2.2.2.1 a)))
theorem apply_evA {dst : Option Tmp} {e : Eff} {k : Option Nat} {t : Tmp} (h : dst ≠ some t) (hk : ∀ n, k = some n → n ∉ (s.ev (.tmp t)).refs) : (s.applyA dst e k).ev (.tmp t) = s.ev (.tmp t) := by
  unfold St.applyA
  rw [apply_ev h]
  cases k with
  | none => rfl
  | some n =>
    have := hk n rfl
    simp only [St.ev, killT, List.getD_eq_getElem?_getD, List.getElem?_map] at this ⊢
    cases hx : s.t[t]? with
    | none => rfl
    | some x =>
      rw [hx] at this
      simp only [Option.map_some, Option.getD_some] at this ⊢
      exact lose_same n x this
theorem apply_evW {dst : Option Tmp} {e : Eff} {k : Option Nat} {t : Tmp} (h : dst ≠ some t) (hw : ((s.applyA dst e k).ev (.tmp t)).whole = true) : (s.applyA dst e k).ev (.tmp t) = s.ev (.tmp t) := by
  refine apply_evA h fun n hk => ?_
  subst hk
  unfold St.applyA at hw
  rw [apply_ev h] at hw
  simp only [St.ev, killT, List.getD_eq_getElem?_getD, List.getElem?_map] at hw ⊢
  cases hx : s.t[t]? with
  | none => simp [AV.refs]
  | some x =>
    rw [hx] at hw
    simp only [Option.map_some, Option.getD_some] at hw ⊢
    exact lose_whole n x hw
theorem apply_mA {dst : Option Tmp} {e : Eff} {k : Option Nat} {n : Nat} (h : n ∉ e.name) (hk : ∀ q row, k = some q → s.m[n]? = some (some (.box row)) → q ∉ AV.refs.AV.refss row) : (s.applyA dst e k).m[n]? = s.m[n]? := by
  unfold St.applyA
  rw [apply_m h]
  exact killM_at hk
theorem lose_set {n : Nat} {v : AV} (hv : n ∉ v.refs) (t : List AV) (a : Nat) : (t.set a v).map (AV.sub n fun _ => .undef) = (t.map (AV.sub n fun _ => .undef)).set a v := by
  rw [List.map_set, lose_same n v hv]
theorem applyA_comm {d d' : Option Tmp} {e e' : Eff} {k k' : Option Nat} (hd : ∀ t, d = some t → d' ≠ some t) (hn : ∀ n ∈ e.name, n ∉ e'.name) (h1 : ∀ n, k = some n → n ∉ e'.v.refs ∧ n ∉ boxE e') (h2 : ∀ n, k' = some n → n ∉ e.v.refs ∧ n ∉ boxE e) (h3 : k = none ∨ k' = none) :
    (s.applyA d e k).applyA d' e' k' = (s.applyA d' e' k').applyA d e k := by
  have key : ∀ (s : St) (d d' : Option Tmp) (e e' : Eff) (n : Nat), (∀ t, d = some t → d' ≠ some t) → (∀ n ∈ e.name, n ∉ e'.name) → n ∉ e'.v.refs → n ∉ boxE e' → (s.applyA d e (some n)).applyA d' e' none = (s.applyA d' e' none).applyA d e (some n) := by
    intro s d d' e e' n hd hn hv hb
    have e1 : (s.applyA d e (some n)).applyA d' e' none = (({ t := killT (some n) s.t, m := killM (some n) s.m } : St).apply d e).apply d' e' := rfl
    have e2 : (s.applyA d' e' none).applyA d e (some n) = (({ t := killT (some n) s.t, m := killM (some n) s.m } : St).apply d' e').apply d e := by
      have : ({ t := killT (some n) (s.apply d' e').t, m := killM (some n) (s.apply d' e').m } : St) = ({ t := killT (some n) s.t, m := killM (some n) s.m } : St).apply d' e' := by
        have ht : killT (some n) (s.apply d' e').t = (({ t := killT (some n) s.t, m := killM (some n) s.m } : St).apply d' e').t := by
          cases d' with
          | none => rfl
          | some a =>
            simp only [St.apply, St.put, killT]
            rw [lose_set hv]
        have hm : killM (some n) (s.apply d' e').m = (({ t := killT (some n) s.t, m := killM (some n) s.m } : St).apply d' e').m := by
          obtain ⟨v', m'⟩ := e'
          cases m' with
          | none => rfl
          | some nb =>
            obtain ⟨q, b⟩ := nb
            simp only [St.apply, killM]
            exact subMem_set fun row hr => by subst hr; simpa [boxE] using hb
        rw [ht, hm]
      show ({ t := killT (some n) (s.apply d' e').t, m := killM (some n) (s.apply d' e').m } : St).apply d e = _
      rw [this]
    rw [e1, e2]
    exact apply_comm hd hn
  cases k with
  | none =>
    cases k' with
    | none => exact apply_comm hd hn
    | some n => exact (key s d' d e' e n (fun t h h' => hd t h' h) (fun a h h' => hn a h' h) (h2 n rfl).1 (h2 n rfl).2).symm
  | some n =>
    cases k' with
    | none => exact key s d d' e e' n hd hn (h1 n rfl).1 (h1 n rfl).2
    | some n' => rcases h3 with h3 | h3 <;> cases h3
def InB (Bf : Nat → List Nat) (Ks : List Nat) (m : List (Option Blk)) : Prop := ∀ n ∈ Ks, ∀ (i : Nat) row, m[i]? = some (some (.box row)) → n ∈ AV.refs.AV.refss row → i ∈ Bf n
def okRec (Bf : Nat → List Nat) (Ks : List Nat) (r : RecA) : Prop := (∀ n, r.k = some n → n ∈ Ks) ∧ ∀ n ∈ boxE r.e, n ∈ Ks → ∀ q ∈ r.e.name, q ∈ Bf n
theorem InB.apply {Bf : Nat → List Nat} {Ks : List Nat} (h : InB Bf Ks s.m) {dst : Option Tmp} {e : Eff} {k : Option Nat} (hb : ∀ n ∈ boxE e, n ∈ Ks → ∀ q ∈ e.name, q ∈ Bf n) : InB Bf Ks (s.applyA dst e k).m := by
  intro n hn i row h1 h2
  obtain ⟨v, m⟩ := e
  have old : (killM k s.m)[i]? = some (some (.box row)) → i ∈ Bf n := by
    intro h3
    cases k with
    | none => exact h n hn i row h3 h2
    | some q =>
      simp only [killM, subMem_get, Option.map_eq_some_iff] at h3
      obtain ⟨ob, hob, b, hb1, hb2⟩ := h3
      cases b with
      | box r0 =>
        simp only [Blk.sub, Blk.box.injEq] at hb2
        subst hb1
        refine h n hn i r0 hob (loses_sub q r0 n ?_)
        rw [AV.subs_eq, hb2]
        exact h2
      | arr => simp [Blk.sub] at hb2
      | mp => simp [Blk.sub] at hb2
      | arrP => simp [Blk.sub] at hb2
  cases m with
  | none => exact old h1
  | some nb =>
    obtain ⟨q, b⟩ := nb
    simp only [St.applyA, St.apply] at h1
    rw [List.getElem?_set] at h1
    split at h1
    · rename_i hqi
      split at h1
      · cases h1
        exact hb n (by simpa [boxE] using h2) hn i (by simp [Eff.name, hqi])
      · cases h1
    · exact old h1
theorem applyA_tlen (s : St) (d : Option Tmp) (e : Eff) (k : Option Nat) : (s.applyA d e k).t.length = s.t.length := by
  cases d <;> cases k <;> simp [St.applyA, St.apply, St.put, killT]
theorem applyA_mlen (s : St) (d : Option Tmp) (e : Eff) (k : Option Nat) : (s.applyA d e k).m.length = s.m.length := by
  have h : ∀ (f : AV → AV) (n : Nat) (m : List (Option Blk)), (subMem n f m).length = m.length := by
    intro f n m
    induction m with
    | nil => rfl
    | cons x xs ih => cases x <;> simp [subMem, ih]
  have hk : (killM k s.m).length = s.m.length := by cases k <;> simp [killM, h]
  obtain ⟨v, m⟩ := e
  cases m with
  | none => exact hk
  | some nb => simp [St.applyA, St.apply, hk]
theorem swapA {Bf : Nat → List Nat} {Ks : List Nat} {a b : RecA} {s s' : St} {rs : List RecA} (hi : indepA ops Bf a.key b.key = true) (hF : InB Bf Ks s.m) (ha : okRec Bf Ks a) (hb : okRec Bf Ks b) (h : ChainA P ops (a :: b :: rs) s s') : ChainA P ops (b :: a :: rs) s s' := by
  cases h with
  | cons ho hd h ht =>
  rename_i x
  cases ht with
  | cons ho' hd' h' ht =>
  rename_i y
  simp only [indepA, RecA.key, indepB, ho, ho', Bool.and_eq_true, List.all_eq_true, Bool.not_eq_true', Bool.or_eq_false_iff, List.contains_eq_mem, decide_eq_false_iff_not, Bool.or_eq_true, Option.isNone_iff_eq_none] at hi
  obtain ⟨⟨⟨h1, h2⟩, h3⟩, hk1, ⟨hk2, hk3⟩, hc1, hc2⟩ := hi
  obtain ⟨a1, a2, a3⟩ := Oper.apart_spec h1
  have miss : ∀ {k : Option Nat} {R : List Nat}, missB k R = true → ∀ n, k = some n → n ∉ R := by
    intro k R hm n hk hn
    subst hk
    simp [missB, hn] at hm
  have clear : ∀ {k : Option Nat} {r : RecA}, clearB Bf k (r.i, r.e.name, r.N, r.k, r.R, r.u, boxE r.e) = true → ∀ n, k = some n → ∀ q ∈ Bf n, q ∉ r.N ∧ q ∉ r.e.name := by
    intro k r hc n hk q hq
    subst hk
    simp only [clearB, List.all_eq_true, Bool.not_eq_true', Bool.or_eq_false_iff, List.contains_eq_mem, decide_eq_false_iff_not] at hc
    exact hc q hq
  have noBox : ∀ {k : Option Nat} {r : RecA}, okRec Bf Ks r → (∀ n, k = some n → n ∈ Ks) → clearB Bf k (r.i, r.e.name, r.N, r.k, r.R, r.u, boxE r.e) = true → ∀ n, k = some n → n ∉ boxE r.e := by
    intro k r hr hK hc n hk hn
    have : ∃ q, q ∈ r.e.name := by
      unfold boxE at hn
      split at hn
      · rename_i q row hq; exact ⟨q, by simp [Eff.name, hq]⟩
      · simp at hn
    obtain ⟨q, hq⟩ := this
    exact (clear hc n hk q (hr.2 n hn (hK n hk) q hq)).2 hq
  -- b first
  have hev1 : ∀ t ∈ y.looksAt ops, (s.applyA x.dst a.e a.k).ev (.tmp t) = s.ev (.tmp t) := by
    intro t ht
    rcases hk1 with hk | ⟨hu, _⟩
    · exact apply_evA (fun hd => a1 t hd ht) (fun n hn => by rw [hk] at hn; cases hn)
    · exact apply_evW (fun hd => a1 t hd ht) (h'.whole hu t ht)
  have hm1 : Agree b.N (s.applyA x.dst a.e a.k).m s.m := fun n hn => apply_mA (fun hc => (h2 n hc).1 hn) fun q row hk hrow hq => (clear hc1 q hk n (hF q (ha.1 q hk) n row hrow hq)).1 hn
  have hbl : LocalA P ops y s b := ⟨h'.loc s hev1 (applyA_tlen ..) (applyA_mlen ..) hm1, fun s2 he2 htl2 hml2 ha2 => h'.loc s2 (fun t ht => (hev1 t ht).trans (he2 t ht)) ((applyA_tlen ..).trans htl2) ((applyA_mlen ..).trans hml2) (fun n hn => (hm1 n hn).trans (ha2 n hn)),
    fun t ht n hn => h'.look t ht n (by rw [hev1 t ht]; exact hn), fun hu t ht => by rw [← hev1 t ht]; exact h'.whole hu t ht, h'.val⟩
  -- then a
  have hev2 : ∀ t ∈ x.looksAt ops, s.ev (.tmp t) = (s.applyA y.dst b.e b.k).ev (.tmp t) := fun t ht => (apply_evA (fun hd => a3 t hd ht) (fun n hn hc => miss hk2 n hn (h.look t ht n hc))).symm
  have hm2 : Agree a.N s.m (s.applyA y.dst b.e b.k).m := fun n hn => (apply_mA (fun hc => (h3 n hc).1 hn) fun q row hk hrow hq => (clear hc2 q hk n (hF q (hb.1 q hk) n row hrow hq)).1 hn).symm
  have hal : LocalA P ops x (s.applyA y.dst b.e b.k) a := ⟨h.loc _ hev2 (applyA_tlen ..).symm (applyA_mlen ..).symm hm2, fun s2 he2 htl2 hml2 ha2 => h.loc s2 (fun t ht => (hev2 t ht).trans (he2 t ht)) ((applyA_tlen ..).symm.trans htl2) ((applyA_mlen ..).symm.trans hml2) (fun n hn => (hm2 n hn).trans (ha2 n hn)),
    fun t ht n hn => h.look t ht n (by rw [hev2 t ht]; exact hn), fun hu t ht => by rw [← hev2 t ht]; exact h.whole hu t ht, h.val⟩
  refine .cons ho' hd' hbl (.cons ho hd hal ?_)
  rw [← applyA_comm (fun t hd hd2 => a2 t hd hd2) (fun n hn => (h2 n hn).2) (fun n hn => ⟨fun hc => ?_, noBox hb ha.1 hc1 n hn⟩) (fun n hn => ⟨fun hc => miss hk2 n hn (h.val n hc), noBox ha hb.1 hc2 n hn⟩) hk3]
  · exact ht
  · rcases hk1 with hk | ⟨_, hk⟩
    · rw [hk] at hn; cases hn
    · exact miss hk n hn (h'.val n hc)
theorem bubbleA {Bf : Nat → List Nat} {Ks : List Nat} {r : RecA} {B : List RecA} {s' : St} (hr : okRec Bf Ks r) : ∀ (A : List RecA) (s : St), InB Bf Ks s.m → (∀ a ∈ A, okRec Bf Ks a) → (∀ a ∈ A, indepA ops Bf a.key r.key = true) → ChainA P ops (A ++ r :: B) s s' → ChainA P ops (r :: (A ++ B)) s s'
  | [], _, _, _, _, h => h
  | a :: A, s, hF, hA, hi, h => by
    cases h with
    | cons ho hd h ht =>
    have := bubbleA hr A _ (hF.apply (hA a (by simp)).2) (fun b hb => hA b (by simp [hb])) (fun b hb => hi b (by simp [hb])) ht
    exact swapA (hi a (by simp)) hF (hA a (by simp)) hr (.cons ho hd h this)
def FreeChain (P : Program) (ops : Array Oper) (Bf : Nat → List Nat) (Ks : List Nat) (rs : List RecA) (s s' : St) : Prop := InB Bf Ks s.m ∧ (∀ r ∈ rs, okRec Bf Ks r) ∧ ChainA P ops rs s s'
def pairsA (ops : Array Oper) (Bf : Nat → List Nat) (ms : List Nat) : List KeyA → Bool
  | [] => true
  | a :: l => l.all (fun b => (ms.getD b.1 0).testBit a.1 || indepA ops Bf a b) && pairsA ops Bf ms l
theorem pairsA_spec {Bf : Nat → List Nat} (hm : ∀ k i, ((masks ops.toList []).getD k 0).testBit i = true → Anc ops i k) : ∀ {rs : List RecA}, pairsA ops Bf (masks ops.toList []) (rs.map RecA.key) = true → rs.Pairwise (fun a b => Anc ops a.i b.i ∨ indepA ops Bf a.key b.key = true)
  | [], _ => .nil
  | a :: rs, h => by
    simp only [List.map_cons, pairsA, Bool.and_eq_true, List.all_eq_true, List.mem_map, forall_exists_index, and_imp, forall_apply_eq_imp_iff₂, Bool.or_eq_true] at h
    refine .cons (fun b hb => ?_) (pairsA_spec hm h.2)
    rcases h.1 b hb with h1 | h1
    · exact .inl (hm _ _ h1)
    · exact .inr h1
def inBoxes (B0 : List (Nat × List Nat)) (acc : List KeyA) (n : Nat) : List Nat := (B0.flatMap fun p => if p.2.contains n then [p.1] else []) ++ acc.flatMap fun b => if b.2.2.2.2.2.2.contains n then b.2.1 else []
def killsOf (rs : List RecA) : List Nat := rs.filterMap (·.k)
theorem inBoxes_spec (rs : List RecA) : InB (inBoxes (boxTab s.m 0) (rs.map RecA.key)) (killsOf rs) s.m ∧ ∀ r ∈ rs, okRec (inBoxes (boxTab s.m 0) (rs.map RecA.key)) (killsOf rs) r := by
  refine ⟨fun n _ i row h1 h2 => ?_, fun r hr => ⟨fun n hk => List.mem_filterMap.2 ⟨r, hr, hk⟩, fun n hn _ q hq => ?_⟩⟩
  · have := boxTab_mem s.m 0 i row h1
    rw [Nat.zero_add] at this
    refine List.mem_append_left _ (List.mem_flatMap.2 ⟨_, this, ?_⟩)
    simp [h2]
  · refine List.mem_append_right _ (List.mem_flatMap.2 ⟨r.key, List.mem_map.2 ⟨r, hr, rfl⟩, ?_⟩)
    simp [RecA.key, hn, hq]
end
def lookRefs (s : St) (ops : Array Oper) (o : Oper) : List Nat := (o.looksAt ops).flatMap fun t => (s.ev (.tmp t)).refs
def lookWhole (s : St) (ops : Array Oper) (o : Oper) : Bool := (o.looksAt ops).all fun t => (s.ev (.tmp t)).whole
def relB (rl : List Nat) (dst : Option Tmp) : Bool := match dst with
  | some d => rl.contains d
  | none => false
def relE (rl : List Nat) (dst : Option Tmp) (s : St) (r : Eff × Option Nat) : Option (Eff × Option Nat) := if relB rl dst = true then (match r, dst with
    | (⟨.own n, some (n', .arr el z rows)⟩, some n''), some d => match s.m[n]?, s.t[d]? with
      | some _, some _ => if n = n' ∧ n = n'' then some (⟨.d (.sl rows), some (n, .arr el z [])⟩, some n) else none
      | _, _ => none
    | _, _ => none) else some r
def effA (P : Program) (rl : List Nat) (o : Oper) (s : St) (C : Eff → Option Nat → List Nat → Prop) : Prop := match o.op with
  | .call { callee := .builtin .append, args, argTypes } => match argTypes.toList, args.toList with
    | [t, t'], [a, x] => bindK (appOf P s o.dst t t' (s.ev a) (s.ev x)) fun r => bindK (relE rl o.dst s r) fun r => C r.1 r.2 ((s.ev a).refs ++ (s.ev x).refs ++ o.dst.toList)
    | _, _ => False
  | .buildSlice t len parts => if relB rl o.dst = true then (bindK o.dst fun d => bindK (opBuildSlice P s t len (parts.toList.map fun p => (p.1, s.ev p.2))) fun b =>
      AV.refsAll (parts.toList.map fun p => s.ev p.2) = [] ∧ s.fresh d = true ∧ match s.t[d]?, b with
        | some _, .arr _ _ rows => C ⟨.d (.sl rows), none⟩ none [d]
        | _, _ => False) else effK P o s fun e N => C e none N
  | _ => effK P o s fun e N => C e none N
def guardRunA (P : Program) (rl : List Nat) (t : AV) (want : Bool) (o : Oper) (s : St) (R : Eff → Option Nat → List Nat → Prop) : Prop := ∀ K' : Eff → Option Nat → List Nat → Prop, (∀ e k N, R e k N → K' e k N) → guardK t want (effA P rl o s K') (K' ⟨.void, none⟩ none [])
def runA (P : Program) (rl : List Nat) (ops : Array Oper) (B0 : List (Nat × List Nat)) : List Oper → Nat → List KeyA → St → (St → Prop) → Prop
  | [], _, acc, s, K => pairsA ops (inBoxes B0 acc.reverse) (masks ops.toList []) acc.reverse = true ∧ K s
  | o :: os, i, acc, s, K => dstOk o = true ∧ match guardT ops o with
    | none => False
    | some none => effA P rl o s fun e k N => runA P rl ops B0 os (i + 1) ((i, e.name, N, k, lookRefs s ops o ++ e.v.refs, lookWhole s ops o, boxE e) :: acc) (s.applyA o.dst e k) K
    | some (some (t, want)) => guardRunA P rl (s.ev (.tmp t)) want o s fun e k N => runA P rl ops B0 os (i + 1) ((i, e.name, N, k, lookRefs s ops o ++ e.v.refs, lookWhole s ops o, boxE e) :: acc) (s.applyA o.dst e k) K
section
variable {P : Program} {rd : Option Nat} {n : Nat} {J : Env} {k : Option Nat} {st : St} {ops : Array Oper} {Q : Exit → Option Nat → St → Prop} {o : Oper} {s : St}
theorem effA_spec {rl : List Nat} {C : Eff → Option Nat → List Nat → Prop} (h : effA P rl o s C) : ∃ e k N, (EffA P o s e k ∧ ∀ s' : St, (∀ x ∈ o.op.operands, s.ev x = s'.ev x) → s.t.length = s'.t.length → s.m.length = s'.m.length → Agree N s.m s'.m → EffA P o s' e k) ∧ C e k N := by
  unfold effA at h
  split at h
  · rename_i ho
    split at h
    · rename_i hts hargs
      obtain ⟨⟨e, k⟩, h1, ⟨e', k'⟩, hr, h3⟩ := h
      have e1 := toList_two hts
      have e2 := toList_two hargs
      subst e1; subst e2
      unfold relE at hr
      split at hr
      · split at hr
        · rename_i n n' el z rows n'' d hrr hdd
          split at hr
          · rename_i y1 y2 hm ht
            split at hr
            · rename_i hnn
              obtain ⟨rfl, rfl⟩ := hnn
              cases hrr
              cases hr
              have hl := (List.getElem?_eq_some_iff.1 hm).1
              have hdl := (List.getElem?_eq_some_iff.1 ht).1
              refine ⟨_, _, _, ⟨.appR _ _ _ _ d n el z rows hdd hl hdl ho h1, fun s' he htl hml hag => .appR _ _ _ _ d n el z rows hdd (by rw [← hml]; exact hl) (by rw [← htl]; exact hdl) ho ?_⟩, h3⟩
              rw [← he _ (by rw [ho]; simp [Op.operands, Call.operands]), ← he _ (by rw [ho]; simp [Op.operands, Call.operands]), ← appOf_local hag]
              exact h1
            · cases hr
          · cases hr
        · cases hr
      · cases hr
        refine ⟨e, k, _, ⟨.app _ _ _ _ e k ho h1, fun s' he _ _ hag => .app _ _ _ _ e k ho ?_⟩, h3⟩
        rw [← he _ (by rw [ho]; simp [Op.operands, Call.operands]), ← he _ (by rw [ho]; simp [Op.operands, Call.operands]), ← appOf_local hag]
        exact h1
    · exact h.elim
  · rename_i t len parts ho
    split at h
    · obtain ⟨d, hd, b, hb, hr, hf, h⟩ := h
      split at h
      · rename_i y e z rows ht
        have hdl := (List.getElem?_eq_some_iff.1 ht).1
        refine ⟨_, _, _, ⟨.litD d e z rows t len parts ho hd hf hdl hb hr, fun s' he htl _ hag => ?_⟩, h⟩
        have hev : ∀ p ∈ parts.toList, s.ev p.2 = s'.ev p.2 := fun p hp => he p.2 (by rw [ho]; simp only [Op.operands, List.mem_toArray, List.mem_map]; exact ⟨p, hp, rfl⟩)
        have e1 : (parts.toList.map fun p => (p.1, s'.ev p.2)) = parts.toList.map fun p => (p.1, s.ev p.2) := List.map_congr_left fun p hp => by rw [hev p hp]
        have e2 : (parts.toList.map fun p => s'.ev p.2) = parts.toList.map fun p => s.ev p.2 := List.map_congr_left fun p hp => by rw [hev p hp]
        have hps : (parts.toList.map fun p => (p.1, s.ev p.2)).map (·.2) = parts.toList.map fun p => s.ev p.2 := by simp [Function.comp_def]
        refine .litD d e z rows t len parts ho hd (by rw [← fresh_agree (hag d (by simp))]; exact hf) (by rw [← htl]; exact hdl) ?_ (by rw [e2]; exact hr)
        rw [e1, ← hb]
        unfold opBuildSlice
        rw [hps, hr]
        simp only [rowsOf_local (s := s') (s' := s) hr, St.arrs]
      · exact h.elim
    · obtain ⟨e, N, h1, h2⟩ := effK_spec h
      exact ⟨e, none, N, ⟨.old e h1.1, fun s' he _ _ hag => .old e (h1.2 s' he hag)⟩, h2⟩
  · obtain ⟨e, N, h1, h2⟩ := effK_spec h
    exact ⟨e, none, N, ⟨.old e h1.1, fun s' he _ _ hag => .old e (h1.2 s' he hag)⟩, h2⟩
theorem local_of {e : Eff} {k : Option Nat} {N : List Nat} {i : Nat} (h1 : EffGA P ops o s e k) (h2 : ∀ s' : St, (∀ t ∈ o.looksAt ops, s.ev (.tmp t) = s'.ev (.tmp t)) → s.t.length = s'.t.length → s.m.length = s'.m.length → Agree N s.m s'.m → EffGA P ops o s' e k) :
    LocalA P ops o s ⟨i, e, k, N, lookRefs s ops o ++ e.v.refs, lookWhole s ops o⟩ :=
  ⟨h1, h2, fun t ht n hn => List.mem_append_left _ (by simp only [lookRefs, List.mem_flatMap]; exact ⟨t, ht, hn⟩), fun hu t ht => by simp only [lookWhole, List.all_eq_true] at hu; exact hu t ht, fun n hn => List.mem_append_right _ hn⟩
theorem runA_chain {rl : List Nat} {B0 : List (Nat × List Nat)} : ∀ (os : List Oper) (i : Nat) (acc : List KeyA) (s : St) (K : St → Prop), (∀ j o, os[j]? = some o → ops[i + j]? = some o) → runA P rl ops B0 os i acc s K →
    ∃ rs s', ChainA P ops rs s s' ∧ rs.map (·.i) = List.range' i os.length ∧ pairsA ops (inBoxes B0 (acc.reverse ++ rs.map RecA.key)) (masks ops.toList []) (acc.reverse ++ rs.map RecA.key) = true ∧ K s'
  | [], i, acc, s, K, _, h => ⟨[], s, .nil s, rfl, by simpa using h.1, h.2⟩
  | o :: os, i, acc, s, K, hos, h => by
    obtain ⟨hd, h⟩ := h
    have hos' : ∀ j o', os[j]? = some o' → ops[i + 1 + j]? = some o' := fun j o' hj => by have := hos (j + 1) o' (by simpa using hj); rwa [show i + 1 + j = i + (j + 1) by omega]
    have ho : ops[i]? = some o := by simpa using hos 0 o (by simp)
    have fin : ∀ (e : Eff) (k : Option Nat) (N : List Nat), LocalA P ops o s ⟨i, e, k, N, lookRefs s ops o ++ e.v.refs, lookWhole s ops o⟩ →
        (∃ rs s', ChainA P ops rs (s.applyA o.dst e k) s' ∧ rs.map (·.i) = List.range' (i + 1) os.length ∧ pairsA ops (inBoxes B0 (((i, e.name, N, k, lookRefs s ops o ++ e.v.refs, lookWhole s ops o, boxE e) :: acc).reverse ++ rs.map RecA.key)) (masks ops.toList []) (((i, e.name, N, k, lookRefs s ops o ++ e.v.refs, lookWhole s ops o, boxE e) :: acc).reverse ++ rs.map RecA.key) = true ∧ K s') →
        ∃ rs s', ChainA P ops rs s s' ∧ rs.map (·.i) = List.range' i (o :: os).length ∧ pairsA ops (inBoxes B0 (acc.reverse ++ rs.map RecA.key)) (masks ops.toList []) (acc.reverse ++ rs.map RecA.key) = true ∧ K s' := by
      rintro e k N hl ⟨rs, s', h1, h2, h3, h4⟩
      refine ⟨⟨i, e, k, N, lookRefs s ops o ++ e.v.refs, lookWhole s ops o⟩ :: rs, s', .cons ho hd hl h1, by simp [h2, List.range'_succ], ?_, h4⟩
      simpa [RecA.key] using h3
    cases hg : guardT ops o with
    | none => rw [hg] at h; exact h.elim
    | some g =>
      rw [hg] at h
      cases g with
      | none =>
        obtain ⟨e, k, N, ⟨h1, h1'⟩, h2⟩ := effA_spec h
        refine fin e k N (local_of (by simp only [EffGA, hg]; exact h1) fun s' he htl hml ha => ?_) (runA_chain os (i + 1) _ _ K hos' h2)
        simp only [EffGA, hg]
        exact h1' s' (ev_looks he) htl hml ha
      | some tw =>
        obtain ⟨t, want⟩ := tw
        obtain ⟨j, hj, ht⟩ := guardT_some hg
        have hmem : t ∈ o.looksAt ops := List.mem_append_right _ (by rw [hj]; simp [ht])
        have h := h _ fun e k N hs => runA_chain os (i + 1) _ _ K hos' hs
        unfold guardK at h
        split at h
        · rename_i b hev
          by_cases hb : b = want
          · obtain ⟨e, k, N, ⟨h1, h1'⟩, h2⟩ := effA_spec (h.1 hb)
            refine fin e k N (local_of (by simp only [EffGA, hg]; exact .inl ⟨by rw [hev, hb], h1⟩) fun s' he htl hml ha => ?_) h2
            simp only [EffGA, hg]
            exact .inl ⟨by rw [← he t hmem, hev, hb], h1' s' (ev_looks he) htl hml ha⟩
          · have hb' : b = !want := by cases b <;> cases want <;> simp_all
            refine fin _ _ _ (local_of (by unfold EffGA; rw [hg]; exact .inr ⟨.inl (by rw [hev, hb']), rfl, rfl⟩) fun s' he htl hml ha => ?_) (h.2 hb')
            unfold EffGA; rw [hg]
            exact .inr ⟨.inl (by rw [← he t hmem, hev, hb']), rfl, rfl⟩
        · rename_i hev
          refine fin _ _ _ (local_of (by unfold EffGA; rw [hg]; exact .inr ⟨.inr hev, rfl, rfl⟩) fun s' he htl hml ha => ?_) h
          unfold EffGA; rw [hg]
          exact .inr ⟨.inr (by rw [← he t hmem, hev]), rfl, rfl⟩
        · exact h.elim
theorem walk_drawnA {rl : List Nat} {id : Nat} (hfol : P.follows .mixedOrders = true) (hback : backB ops = true) (h : runA P rl ops (boxTab st.m 0) ops.toList 0 [] st (Q .normal k)) : Walk P rd n J (.region id ops true) k st Q := fun B base out μ tmps w ds _ hst hJ hM => by
  obtain ⟨rs, s', h1, h2, h3, h4⟩ := runA_chain _ _ _ _ _ (fun j o hj => by simpa using hj) h
  simp only [List.reverse_nil, List.nil_append] at h3
  have hfree := inBoxes_spec (s := st) rs
  refine region_drawG (ix := RecA.i) (I := fun a b => indepA ops (inBoxes (boxTab st.m 0) (rs.map RecA.key)) a.key b.key = true) (C := FreeChain P ops (inBoxes (boxTab st.m 0) (rs.map RecA.key)) (killsOf rs)) (fun s s' h => by obtain ⟨_, _, h⟩ := h; cases h; rfl) ?_ ?_ hfol hback (by rw [h2, List.range_eq_range']; simp)
    (pairsA_spec (fun k i => masks_spec ops.toList [] (fun k i hk => by simp at hk) (fun k o hk => by simpa using hk) k i) h3) ⟨hfree.1, hfree.2, h1⟩ hst fun tmps' μ' w' h5 hk hS => .step hJ h5 hk hS hM h4
  · rintro r rs' s s' ⟨hF, hR, hc⟩
    cases hc with
    | cons ho hd hl ht => exact ⟨_, _, ho, hd, hl.eff.step, hF.apply (hR r (by simp)).2, fun q hq => hR q (by simp [hq]), ht⟩
  · rintro r B s s' A hA ⟨hF, hR, hc⟩
    refine ⟨hF, fun q hq => hR q ?_, bubbleA (hR r (by simp)) A s hF (fun a ha => hR a (by simp [ha])) hA hc⟩
    simp only [List.mem_cons, List.mem_append] at hq ⊢
    rcases hq with rfl | hq | hq
    · exact .inr (.inl rfl)
    · exact .inl hq
    · exact .inr (.inr hq)
theorem walkL_drawnR {id : Nat} {cs : List Code} (rl : List Nat) (hfol : P.follows .mixedOrders = true) (hback : backB ops = true) (h : ∀ K : St → Prop, (∀ s, WalkL P rd n J cs k s Q → K s) → runA P rl ops (boxTab st.m 0) ops.toList 0 [] st K) : WalkL P rd n J (.region id ops true :: cs) k st Q :=
  walk_drawnA hfol hback (h _ fun _ h => h)
theorem walkL_drawnA {id : Nat} {cs : List Code} (hfol : P.follows .mixedOrders = true) (hback : backB ops = true) (h : ∀ K : St → Prop, (∀ s, WalkL P rd n J cs k s Q → K s) → runA P [] ops (boxTab st.m 0) ops.toList 0 [] st K) : WalkL P rd n J (.region id ops true :: cs) k st Q :=
  walkL_drawnR [] hfol hback h
end
def oldA (C : Eff → Option Nat → List Nat → Prop) (e : Eff) (N : List Nat) : Prop := C e none N
theorem effA_eq (P : Program) (rl : List Nat) (o : Oper) (s : St) (C : Eff → Option Nat → List Nat → Prop) : effA P rl o s C = (match o.op with
  | .call { callee := .builtin .append, args, argTypes } => match argTypes.toList, args.toList with
    | [t, t'], [a, x] => bindK (appOf P s o.dst t t' (s.ev a) (s.ev x)) fun r => bindK (relE rl o.dst s r) fun r => C r.1 r.2 ((s.ev a).refs ++ (s.ev x).refs ++ o.dst.toList)
    | _, _ => False
  | .buildSlice t len parts => if relB rl o.dst = true then (bindK o.dst fun d => bindK (opBuildSlice P s t len (parts.toList.map fun p => (p.1, s.ev p.2))) fun b =>
      AV.refsAll (parts.toList.map fun p => s.ev p.2) = [] ∧ s.fresh d = true ∧ match s.t[d]?, b with
        | some _, .arr _ _ rows => C ⟨.d (.sl rows), none⟩ none [d]
        | _, _ => False) else effK P o s (oldA C)
  | _ => effK P o s (oldA C)) := rfl
theorem effA_mono {P : Program} {rl : List Nat} {o : Oper} {s : St} {C C' : Eff → Option Nat → List Nat → Prop} (h : effA P rl o s C) (hC : ∀ e k N, C e k N → C' e k N) : effA P rl o s C' := by
  unfold effA at h ⊢
  split
  · rename_i ho
    simp only [ho] at h
    split at h
    · obtain ⟨r, h1, r', h2, h3⟩ := h
      exact ⟨r, h1, r', h2, hC _ _ _ h3⟩
    · exact h.elim
  · rename_i ho
    simp only [ho] at h
    split at h
    · rename_i hr
      rw [if_pos hr]
      obtain ⟨d, hd, b, hb, h1, h2, h3⟩ := h
      refine ⟨d, hd, b, hb, h1, h2, ?_⟩
      split at h3
      · exact hC _ _ _ h3
      · exact h3.elim
    · rename_i hr
      rw [if_neg hr]
      exact effK_mono h fun e N hc => hC _ _ _ hc
  · rename_i hno hno2
    split at h
    · rename_i ho; exact absurd ho (hno _ _)
    · rename_i ho; exact absurd ho (hno2 _ _ _)
    · exact effK_mono h fun e N hc => hC _ _ _ hc
theorem guardRunA_tt (P : Program) (rl : List Nat) (o : Oper) (s : St) (R : Eff → Option Nat → List Nat → Prop) : guardRunA P rl (.d (.bool true)) true o s R = effA P rl o s R := by
  apply propext
  exact ⟨fun h => (h R (fun _ _ _ h => h)).1 rfl, fun h K' hK => ⟨fun _ => effA_mono h hK, fun e => (by cases e)⟩⟩
theorem guardRunA_ff (P : Program) (rl : List Nat) (o : Oper) (s : St) (R : Eff → Option Nat → List Nat → Prop) : guardRunA P rl (.d (.bool false)) false o s R = effA P rl o s R := by
  apply propext
  exact ⟨fun h => (h R (fun _ _ _ h => h)).1 rfl, fun h K' hK => ⟨fun _ => effA_mono h hK, fun e => (by cases e)⟩⟩
theorem guardRunA_tf (P : Program) (rl : List Nat) (o : Oper) (s : St) (R : Eff → Option Nat → List Nat → Prop) : guardRunA P rl (.d (.bool true)) false o s R = R ⟨.void, none⟩ none [] := by
  apply propext
  exact ⟨fun h => (h R (fun _ _ _ h => h)).2 rfl, fun h K' hK => ⟨fun e => (by cases e), fun _ => hK _ _ _ h⟩⟩
theorem guardRunA_ft (P : Program) (rl : List Nat) (o : Oper) (s : St) (R : Eff → Option Nat → List Nat → Prop) : guardRunA P rl (.d (.bool false)) true o s R = R ⟨.void, none⟩ none [] := by
  apply propext
  exact ⟨fun h => (h R (fun _ _ _ h => h)).2 rfl, fun h K' hK => ⟨fun e => (by cases e), fun _ => hK _ _ _ h⟩⟩
theorem guardRunA_void (P : Program) (rl : List Nat) (want : Bool) (o : Oper) (s : St) (R : Eff → Option Nat → List Nat → Prop) : guardRunA P rl .void want o s R = R ⟨.void, none⟩ none [] := by
  apply propext
  exact ⟨fun h => h R (fun _ _ _ h => h), fun h K' hK => hK _ _ _ h⟩
def contA (P : Program) (rl : List Nat) (ops : Array Oper) (B0 : List (Nat × List Nat)) (os : List Oper) (i : Nat) (acc : List KeyA) (s : St) (o : Oper) (K : St → Prop) (e : Eff) (k : Option Nat) (N : List Nat) : Prop :=
  runA P rl ops B0 os (i + 1) ((i, e.name, N, k, lookRefs s ops o ++ e.v.refs, lookWhole s ops o, boxE e) :: acc) (s.applyA o.dst e k) K
theorem runA_nil (P : Program) (rl : List Nat) (ops : Array Oper) (B0 : List (Nat × List Nat)) (i : Nat) (acc : List KeyA) (s : St) (K : St → Prop) : runA P rl ops B0 [] i acc s K = (pairsA ops (inBoxes B0 acc.reverse) (masks ops.toList []) acc.reverse = true ∧ K s) := rfl
theorem runA_cons (P : Program) (rl : List Nat) (ops : Array Oper) (B0 : List (Nat × List Nat)) (o : Oper) (os : List Oper) (i : Nat) (acc : List KeyA) (x : AV) (t : List AV) (m : List (Option Blk)) (K : St → Prop) : runA P rl ops B0 (o :: os) i acc ⟨x :: t, m⟩ K = (dstOk o = true ∧ match guardT ops o with
    | none => False
    | some none => effA P rl o ⟨x :: t, m⟩ (contA P rl ops B0 os i acc ⟨x :: t, m⟩ o K)
    | some (some (t', want)) => guardRunA P rl ((⟨x :: t, m⟩ : St).ev (.tmp t')) want o ⟨x :: t, m⟩ (contA P rl ops B0 os i acc ⟨x :: t, m⟩ o K)) := rfl
theorem killT_none (t : List AV) : killT none t = t := rfl
theorem killT_some (n : Nat) (t : List AV) : killT (some n) t = t.map (AV.sub n fun _ => .undef) := rfl
theorem killM_none (m : List (Option Blk)) : killM none m = m := rfl
theorem killM_some (n : Nat) (m : List (Option Blk)) : killM (some n) m = subMem n (fun _ => .undef) m := rfl
theorem relE_nil (dst : Option Tmp) (s : St) (r : Eff × Option Nat) : relE [] dst s r = some r := by cases dst <;> rfl
theorem relB_nil (dst : Option Tmp) : relB [] dst = false := by cases dst <;> rfl
theorem relB_some (rl : List Nat) (d : Tmp) : relB rl (some d) = rl.contains d := rfl
attribute [go_sem] relE_nil relB_nil relB_some relE List.contains_nil
attribute [go_sem] List.contains_cons runA_nil runA_cons contA oldA effA_eq appOf boxTab killM_none killM_some St.applyA killT_none killT_some guardRunA_tt guardRunA_ff guardRunA_tf guardRunA_ft guardRunA_void
theorem CallR.made {P : Program} {st : St} {dst : Option Tmp} {g : FuncId} {xs : List AV} {ds : List DV} {r : AV} {m1 : List Blk} (news : List Nat) (hf : FnG P g [] [] (ds.map AV.d) r m1) (hd : reifyAll st xs = some ds) (hn : news.Nodup) (hl : news.length = m1.length)
    (hnew : news.all st.fresh = true) (hx : AV.refsAll xs = []) : CallR P st dst g xs (({ st with m := putM news (m1.map (Blk.mapN fun i => news[i]?)) st.m } : St).put dst (r.mapN fun i => news[i]?)) := by
  obtain ⟨h1, h2⟩ := allSome_spec hd
  have := CallR.gen (dst := dst) (st := st) (xs := xs) [] [] (ds.map AV.d) r m1 [] news [] [] hf (by simpa using hn) rfl (by simpa using hl) (by intro i b h; simp at h) (fun n hn => fresh_spec (List.all_eq_true.1 hnew n hn)) (by simpa using h1) (fun i x y hi hy => by
    simp only [List.getElem?_map, Option.map_eq_some_iff] at hy
    obtain ⟨d, hy, rfl⟩ := hy
    have h3 := h2 i d hy
    simp only [List.getElem?_map, Option.map_eq_some_iff] at h3
    obtain ⟨x', hx', hr⟩ := h3
    rw [hi] at hx'
    cases hx'
    refine .inl ⟨d, rfl, hr, fun n hn => ?_⟩
    have := refsAll_nil hx (List.mem_of_getElem? hi)
    rw [this] at hn
    cases hn) (by simp) (by intro n hn; simp at hn) (by intro i n h; simp at h) (.inl rfl)
  exact this
theorem weak_release (l : List Nat) (st : St) : Weak st (releaseAll l st) := by
  intro P base out μ tmps w h
  obtain ⟨μ', h1, _, _, h2, _⟩ := releaseAll_sound l st μ h
  exact ⟨μ', h1, h2⟩
theorem walkL_release {P : Program} {rd : Option Nat} {n : Nat} {J : Env} {c : Code} {cs : List Code} {k : Option Nat} {st : St} {Q : Exit → Option Nat → St → Prop} (l : List Nat) (h : WalkL P rd n J (c :: cs) k (releaseAll l st) Q) : WalkL P rd n J (c :: cs) k st Q :=
  walkL_weak (weak_release l st) h
theorem CallR.inPlace {P : Program} {st : St} {dst : Option Tmp} {g : FuncId} {xs : List AV} (n : Nat) {b0 b0' b1 : Blk} {args : List AV} {r : AV} (hf : FnG P g [b0] [0] args r [b1]) (hn : st.m[n]? = some (some b0')) (hb : b0 = b0'.mapN (inv [n])) (hla : xs.length = args.length)
    (ha : ∀ (i : Nat) x y, xs[i]? = some x → args[i]? = some y → argG st [n] [] x y) : CallR P st dst g xs (({ st with m := st.m.set n (some (b1.mapN fun i => [n][i]?)) } : St).put dst (r.mapN fun i => [n][i]?)) := by
  have := CallR.gen (dst := dst) (st := st) [b0] [0] args r [b1] [n] [] [] [] hf (by simp) rfl rfl (fun i b hi => by
    cases i with
    | zero => cases hi; exact ⟨n, b0', rfl, hn, hb⟩
    | succ i => simp at hi) (by simp) hla ha (by simp) (by intro n hn; simp at hn) (fun i k hi _ => by
    cases i with
    | zero => simp
    | succ i => simp at hi) (.inl rfl)
  exact this
end Go.Ab
/- Arrays of which the room is asked: full, or with room behind; and arrays with room that settle. -/
namespace Go.Ab
open Go.RowKit
def roomed (len : Nat) : AV → AV
  | .own n => .vc n len
  | .view n off k => .view n off k
  | .elem n i o => .elem n i o
  | _ => .undef
def fulled (e : TypeId) (z : Nat) (rows : List (List DV)) : AV → AV
  | .own _ => .dfull rows
  | y => snapLeaf (.arr e z rows) y
def settled (len : Nat) : AV → AV
  | .vh n k => if k = len then .own n else .undef
  | .view n off k => if off + k ≤ len then .view n off k else .undef
  | .elem n i o => .elem n i o
  | _ => .undef
def St.roomed (n : Nat) (st : St) : St := match (st.m[n]? : Option (Option Blk)) with
  | some (some (.arr e z rows)) => { t := st.t.map (AV.sub n (Ab.roomed rows.length)), m := (subMem n (Ab.roomed rows.length) st.m).set n (some (.arrP e z rows)) }
  | _ => st
def St.fulled (n : Nat) (st : St) : St := match (st.m[n]? : Option (Option Blk)) with
  | some (some (.arr e z rows)) => { t := st.t.map (AV.sub n (Ab.fulled e z rows)), m := subMem n (Ab.fulled e z rows) (st.m.set n none) }
  | _ => st
def St.settle (n : Nat) (st : St) : St := match (st.m[n]? : Option (Option Blk)) with
  | some (some (.arrP e z rows)) => { t := st.t.map (AV.sub n (settled rows.length)), m := (subMem n (settled rows.length) st.m).set n (some (.arr e z rows)) }
  | _ => st
section
variable {P : Program} {base : Own} {out : Own} {st st' : St} {μ : Pl} {tmps : Array Value} {w w' : World}
end
attribute [go_sem] St.roomed St.fulled St.settle roomed fulled settled opSlice3
end Go.Ab
/- The program's type table, as the engine asks for it. -/
namespace Go.Ab
open Go.RowKit Go.Proofs
theorem tab_tsz_0 : tsz Tryz.prog 0 = (some 1) := by kernel_rfl
theorem tab_tbytes_0 : tbytes Tryz.prog 0 = (some 0) := by kernel_rfl
theorem tab_tagg_0 : tagg Tryz.prog 0 = (some false) := by kernel_rfl
theorem tab_tsz_1 : tsz Tryz.prog 1 = (some 1) := by kernel_rfl
theorem tab_tbytes_1 : tbytes Tryz.prog 1 = (some 8) := by kernel_rfl
theorem tab_tagg_1 : tagg Tryz.prog 1 = (some false) := by kernel_rfl
theorem tab_tsz_2 : tsz Tryz.prog 2 = (some 1) := by kernel_rfl
theorem tab_tbytes_2 : tbytes Tryz.prog 2 = (some 8) := by kernel_rfl
theorem tab_tagg_2 : tagg Tryz.prog 2 = (some false) := by kernel_rfl
theorem tab_tint_2 : tint Tryz.prog 2 = (some IntKind.i64) := by kernel_rfl
theorem tab_tsz_3 : tsz Tryz.prog 3 = (some 1) := by kernel_rfl
theorem tab_tbytes_3 : tbytes Tryz.prog 3 = (some 8) := by kernel_rfl
theorem tab_tagg_3 : tagg Tryz.prog 3 = (some false) := by kernel_rfl
theorem tab_tint_3 : tint Tryz.prog 3 = (some IntKind.i64) := by kernel_rfl
theorem tab_tsz_4 : tsz Tryz.prog 4 = (some 1) := by kernel_rfl
theorem tab_tbytes_4 : tbytes Tryz.prog 4 = (some 1) := by kernel_rfl
theorem tab_tagg_4 : tagg Tryz.prog 4 = (some false) := by kernel_rfl
theorem tab_tsz_17 : tsz Tryz.prog 17 = (some 1) := by kernel_rfl
theorem tab_tbytes_17 : tbytes Tryz.prog 17 = (some 8) := by kernel_rfl
theorem tab_tagg_17 : tagg Tryz.prog 17 = (some false) := by kernel_rfl
theorem tab_tsz_22 : tsz Tryz.prog 22 = (some 1) := by kernel_rfl
theorem tab_tbytes_22 : tbytes Tryz.prog 22 = (some 24) := by kernel_rfl
theorem tab_tagg_22 : tagg Tryz.prog 22 = (some false) := by kernel_rfl
theorem tab_tslice_22 : tslice Tryz.prog 22 = (some 73) := by kernel_rfl
theorem tab_tsz_24 : tsz Tryz.prog 24 = (some 1) := by kernel_rfl
theorem tab_tbytes_24 : tbytes Tryz.prog 24 = (some 24) := by kernel_rfl
theorem tab_tagg_24 : tagg Tryz.prog 24 = (some true) := by kernel_rfl
theorem tab_tfields_24 : tfields Tryz.prog 24 = (some [(0, (1, false))]) := by kernel_rfl
theorem tab_tsz_25 : tsz Tryz.prog 25 = (some 1) := by kernel_rfl
theorem tab_tbytes_25 : tbytes Tryz.prog 25 = (some 24) := by kernel_rfl
theorem tab_tagg_25 : tagg Tryz.prog 25 = (some false) := by kernel_rfl
theorem tab_tslice_25 : tslice Tryz.prog 25 = (some 95) := by kernel_rfl
theorem tab_tsz_27 : tsz Tryz.prog 27 = (some 2) := by kernel_rfl
theorem tab_tbytes_27 : tbytes Tryz.prog 27 = (some 16) := by kernel_rfl
theorem tab_tagg_27 : tagg Tryz.prog 27 = (some true) := by kernel_rfl
theorem tab_tfields_27 : tfields Tryz.prog 27 = (some [(0, (1, false)), (1, (1, false))]) := by kernel_rfl
theorem tab_teq_27 : teq Tryz.prog 27 = (some [(0, false), (1, false)]) := by kernel_rfl
theorem tab_tsz_29 : tsz Tryz.prog 29 = (some 5) := by kernel_rfl
theorem tab_tbytes_29 : tbytes Tryz.prog 29 = (some 40) := by kernel_rfl
theorem tab_tagg_29 : tagg Tryz.prog 29 = (some true) := by kernel_rfl
theorem tab_tfields_29 : tfields Tryz.prog 29 = (some [(0, (1, false)), (1, (1, false)), (2, (1, false)), (3, (2, true))]) := by kernel_rfl
theorem tab_teq_29 : teq Tryz.prog 29 = (some [(0, false), (1, false), (2, false), (3, false), (4, false)]) := by kernel_rfl
theorem tab_tsz_30 : tsz Tryz.prog 30 = (some 1) := by kernel_rfl
theorem tab_tbytes_30 : tbytes Tryz.prog 30 = (some 24) := by kernel_rfl
theorem tab_tagg_30 : tagg Tryz.prog 30 = (some false) := by kernel_rfl
theorem tab_tslice_30 : tslice Tryz.prog 30 = (some 125) := by kernel_rfl
theorem tab_tsz_32 : tsz Tryz.prog 32 = (some 8) := by kernel_rfl
theorem tab_tbytes_32 : tbytes Tryz.prog 32 = (some 112) := by kernel_rfl
theorem tab_tagg_32 : tagg Tryz.prog 32 = (some true) := by kernel_rfl
theorem tab_tfields_32 : tfields Tryz.prog 32 = (some [(0, (1, true)), (1, (1, false)), (2, (5, true)), (7, (1, false))]) := by kernel_rfl
theorem tab_tsz_33 : tsz Tryz.prog 33 = (some 1) := by kernel_rfl
theorem tab_tbytes_33 : tbytes Tryz.prog 33 = (some 24) := by kernel_rfl
theorem tab_tagg_33 : tagg Tryz.prog 33 = (some false) := by kernel_rfl
theorem tab_tslice_33 : tslice Tryz.prog 33 = (some 51) := by kernel_rfl
theorem tab_tsz_34 : tsz Tryz.prog 34 = (some 1) := by kernel_rfl
theorem tab_tbytes_34 : tbytes Tryz.prog 34 = (some 24) := by kernel_rfl
theorem tab_tagg_34 : tagg Tryz.prog 34 = (some false) := by kernel_rfl
theorem tab_tslice_34 : tslice Tryz.prog 34 = (some 3) := by kernel_rfl
theorem tab_tsz_38 : tsz Tryz.prog 38 = (some 1) := by kernel_rfl
theorem tab_tbytes_38 : tbytes Tryz.prog 38 = (some 8) := by kernel_rfl
theorem tab_tagg_38 : tagg Tryz.prog 38 = (some false) := by kernel_rfl
theorem tab_tint_38 : tint Tryz.prog 38 = (some IntKind.i64) := by kernel_rfl
theorem tab_tsz_47 : tsz Tryz.prog 47 = (some 1) := by kernel_rfl
theorem tab_tbytes_47 : tbytes Tryz.prog 47 = (some 24) := by kernel_rfl
theorem tab_tagg_47 : tagg Tryz.prog 47 = (some false) := by kernel_rfl
theorem tab_tslice_47 : tslice Tryz.prog 47 = (some 34) := by kernel_rfl
theorem tab_tsz_51 : tsz Tryz.prog 51 = (some 2) := by kernel_rfl
theorem tab_tbytes_51 : tbytes Tryz.prog 51 = (some 16) := by kernel_rfl
theorem tab_tagg_51 : tagg Tryz.prog 51 = (some true) := by kernel_rfl
theorem tab_tfields_51 : tfields Tryz.prog 51 = (some [(0, (1, false)), (1, (1, false))]) := by kernel_rfl
theorem tab_teq_51 : teq Tryz.prog 51 = (some [(0, false), (1, false)]) := by kernel_rfl
theorem tab_tsz_71 : tsz Tryz.prog 71 = (some 1) := by kernel_rfl
theorem tab_tbytes_71 : tbytes Tryz.prog 71 = (some 24) := by kernel_rfl
theorem tab_tagg_71 : tagg Tryz.prog 71 = (some false) := by kernel_rfl
theorem tab_tslice_71 : tslice Tryz.prog 71 = (some 191) := by kernel_rfl
theorem tab_tsz_73 : tsz Tryz.prog 73 = (some 1) := by kernel_rfl
theorem tab_tbytes_73 : tbytes Tryz.prog 73 = (some 24) := by kernel_rfl
theorem tab_tagg_73 : tagg Tryz.prog 73 = (some true) := by kernel_rfl
theorem tab_tfields_73 : tfields Tryz.prog 73 = (some [(0, (1, false))]) := by kernel_rfl
theorem tab_tsz_75 : tsz Tryz.prog 75 = (some 1) := by kernel_rfl
theorem tab_tbytes_75 : tbytes Tryz.prog 75 = (some 24) := by kernel_rfl
theorem tab_tagg_75 : tagg Tryz.prog 75 = (some false) := by kernel_rfl
theorem tab_tslice_75 : tslice Tryz.prog 75 = (some 179) := by kernel_rfl
theorem tab_tsz_76 : tsz Tryz.prog 76 = (some 1) := by kernel_rfl
theorem tab_tbytes_76 : tbytes Tryz.prog 76 = (some 24) := by kernel_rfl
theorem tab_tagg_76 : tagg Tryz.prog 76 = (some false) := by kernel_rfl
theorem tab_tslice_76 : tslice Tryz.prog 76 = (some 162) := by kernel_rfl
theorem tab_tsz_77 : tsz Tryz.prog 77 = (some 1) := by kernel_rfl
theorem tab_tbytes_77 : tbytes Tryz.prog 77 = (some 24) := by kernel_rfl
theorem tab_tagg_77 : tagg Tryz.prog 77 = (some false) := by kernel_rfl
theorem tab_tslice_77 : tslice Tryz.prog 77 = (some 160) := by kernel_rfl
theorem tab_tsz_79 : tsz Tryz.prog 79 = (some 4) := by kernel_rfl
theorem tab_tbytes_79 : tbytes Tryz.prog 79 = (some 96) := by kernel_rfl
theorem tab_tagg_79 : tagg Tryz.prog 79 = (some true) := by kernel_rfl
theorem tab_tfields_79 : tfields Tryz.prog 79 = (some [(0, (1, false)), (1, (1, false)), (2, (1, false)), (3, (1, false))]) := by kernel_rfl
theorem tab_tsz_81 : tsz Tryz.prog 81 = (some 10) := by kernel_rfl
theorem tab_tbytes_81 : tbytes Tryz.prog 81 = (some 128) := by kernel_rfl
theorem tab_tagg_81 : tagg Tryz.prog 81 = (some true) := by kernel_rfl
theorem tab_tfields_81 : tfields Tryz.prog 81 = (some [(0, (8, true)), (8, (1, false)), (9, (1, false))]) := by kernel_rfl
theorem tab_tsz_93 : tsz Tryz.prog 93 = (some 3) := by kernel_rfl
theorem tab_tbytes_93 : tbytes Tryz.prog 93 = (some 24) := by kernel_rfl
theorem tab_tagg_93 : tagg Tryz.prog 93 = (some true) := by kernel_rfl
theorem tab_tfields_93 : tfields Tryz.prog 93 = (some [(0, (1, false)), (1, (1, false)), (2, (1, false))]) := by kernel_rfl
theorem tab_teq_93 : teq Tryz.prog 93 = (some [(0, false), (1, false), (2, false)]) := by kernel_rfl
theorem tab_tsz_95 : tsz Tryz.prog 95 = (some 4) := by kernel_rfl
theorem tab_tbytes_95 : tbytes Tryz.prog 95 = (some 32) := by kernel_rfl
theorem tab_tagg_95 : tagg Tryz.prog 95 = (some true) := by kernel_rfl
theorem tab_tfields_95 : tfields Tryz.prog 95 = (some [(0, (1, false)), (1, (3, true))]) := by kernel_rfl
theorem tab_teq_95 : teq Tryz.prog 95 = (some [(0, false), (1, false), (2, false), (3, false)]) := by kernel_rfl
theorem tab_tsz_97 : tsz Tryz.prog 97 = (some 14) := by kernel_rfl
theorem tab_tbytes_97 : tbytes Tryz.prog 97 = (some 160) := by kernel_rfl
theorem tab_tagg_97 : tagg Tryz.prog 97 = (some true) := by kernel_rfl
theorem tab_tfields_97 : tfields Tryz.prog 97 = (some [(0, (10, true)), (10, (4, true))]) := by kernel_rfl
theorem tab_tsz_103 : tsz Tryz.prog 103 = (some 1) := by kernel_rfl
theorem tab_tbytes_103 : tbytes Tryz.prog 103 = (some 8) := by kernel_rfl
theorem tab_tagg_103 : tagg Tryz.prog 103 = (some false) := by kernel_rfl
theorem tab_tsz_107 : tsz Tryz.prog 107 = (some 1) := by kernel_rfl
theorem tab_tbytes_107 : tbytes Tryz.prog 107 = (some 8) := by kernel_rfl
theorem tab_tagg_107 : tagg Tryz.prog 107 = (some false) := by kernel_rfl
theorem tab_tsz_109 : tsz Tryz.prog 109 = (some 10) := by kernel_rfl
theorem tab_tbytes_109 : tbytes Tryz.prog 109 = (some 144) := by kernel_rfl
theorem tab_tagg_109 : tagg Tryz.prog 109 = (some true) := by kernel_rfl
theorem tab_tfields_109 : tfields Tryz.prog 109 = (some [(0, (8, true)), (8, (1, false)), (9, (1, false))]) := by kernel_rfl
theorem tab_tsz_114 : tsz Tryz.prog 114 = (some 1) := by kernel_rfl
theorem tab_tbytes_114 : tbytes Tryz.prog 114 = (some 8) := by kernel_rfl
theorem tab_tagg_114 : tagg Tryz.prog 114 = (some false) := by kernel_rfl
theorem tab_tsz_122 : tsz Tryz.prog 122 = (some 4) := by kernel_rfl
theorem tab_tbytes_122 : tbytes Tryz.prog 122 = (some 32) := by kernel_rfl
theorem tab_tagg_122 : tagg Tryz.prog 122 = (some true) := by kernel_rfl
theorem tab_tfields_122 : tfields Tryz.prog 122 = (some [(0, (1, false)), (1, (1, false)), (2, (2, true))]) := by kernel_rfl
theorem tab_teq_122 : teq Tryz.prog 122 = (some [(0, false), (1, false), (2, false), (3, false)]) := by kernel_rfl
theorem tab_tsz_123 : tsz Tryz.prog 123 = (some 1) := by kernel_rfl
theorem tab_tbytes_123 : tbytes Tryz.prog 123 = (some 8) := by kernel_rfl
theorem tab_tagg_123 : tagg Tryz.prog 123 = (some false) := by kernel_rfl
theorem tab_tsz_125 : tsz Tryz.prog 125 = (some 7) := by kernel_rfl
theorem tab_tbytes_125 : tbytes Tryz.prog 125 = (some 56) := by kernel_rfl
theorem tab_tagg_125 : tagg Tryz.prog 125 = (some true) := by kernel_rfl
theorem tab_tfields_125 : tfields Tryz.prog 125 = (some [(0, (1, false)), (1, (1, false)), (2, (1, false)), (3, (4, true))]) := by kernel_rfl
theorem tab_tsz_126 : tsz Tryz.prog 126 = (some 1) := by kernel_rfl
theorem tab_tbytes_126 : tbytes Tryz.prog 126 = (some 8) := by kernel_rfl
theorem tab_tagg_126 : tagg Tryz.prog 126 = (some false) := by kernel_rfl
theorem tab_tsz_150 : tsz Tryz.prog 150 = (some 1) := by kernel_rfl
theorem tab_tbytes_150 : tbytes Tryz.prog 150 = (some 8) := by kernel_rfl
theorem tab_tagg_150 : tagg Tryz.prog 150 = (some false) := by kernel_rfl
theorem tab_tsz_154 : tsz Tryz.prog 154 = (some 2) := by kernel_rfl
theorem tab_tbytes_154 : tbytes Tryz.prog 154 = (some 16) := by kernel_rfl
theorem tab_tagg_154 : tagg Tryz.prog 154 = (some true) := by kernel_rfl
theorem tab_tfields_154 : tfields Tryz.prog 154 = (some [(0, (1, false)), (1, (1, false))]) := by kernel_rfl
theorem tab_teq_154 : teq Tryz.prog 154 = (some [(0, false), (1, true)]) := by kernel_rfl
theorem tab_tsz_155 : tsz Tryz.prog 155 = (some 1) := by kernel_rfl
theorem tab_tbytes_155 : tbytes Tryz.prog 155 = (some 24) := by kernel_rfl
theorem tab_tagg_155 : tagg Tryz.prog 155 = (some false) := by kernel_rfl
theorem tab_tslice_155 : tslice Tryz.prog 155 = (some 71) := by kernel_rfl
theorem tab_tsz_157 : tsz Tryz.prog 157 = (some 3) := by kernel_rfl
theorem tab_tbytes_157 : tbytes Tryz.prog 157 = (some 56) := by kernel_rfl
theorem tab_tagg_157 : tagg Tryz.prog 157 = (some true) := by kernel_rfl
theorem tab_tfields_157 : tfields Tryz.prog 157 = (some [(0, (1, false)), (1, (1, false)), (2, (1, false))]) := by kernel_rfl
theorem tab_tsz_160 : tsz Tryz.prog 160 = (some 1) := by kernel_rfl
theorem tab_tbytes_160 : tbytes Tryz.prog 160 = (some 24) := by kernel_rfl
theorem tab_tagg_160 : tagg Tryz.prog 160 = (some false) := by kernel_rfl
theorem tab_tslice_160 : tslice Tryz.prog 160 = (some 184) := by kernel_rfl
theorem tab_tsz_162 : tsz Tryz.prog 162 = (some 1) := by kernel_rfl
theorem tab_tbytes_162 : tbytes Tryz.prog 162 = (some 24) := by kernel_rfl
theorem tab_tagg_162 : tagg Tryz.prog 162 = (some true) := by kernel_rfl
theorem tab_tfields_162 : tfields Tryz.prog 162 = (some [(0, (1, false))]) := by kernel_rfl
theorem tab_tsz_168 : tsz Tryz.prog 168 = (some 4) := by kernel_rfl
theorem tab_tbytes_168 : tbytes Tryz.prog 168 = (some 96) := by kernel_rfl
theorem tab_tagg_168 : tagg Tryz.prog 168 = (some true) := by kernel_rfl
theorem tab_tfields_168 : tfields Tryz.prog 168 = (some [(0, (4, true))]) := by kernel_rfl
theorem tab_tsz_171 : tsz Tryz.prog 171 = (some 1) := by kernel_rfl
theorem tab_tbytes_171 : tbytes Tryz.prog 171 = (some 8) := by kernel_rfl
theorem tab_tagg_171 : tagg Tryz.prog 171 = (some false) := by kernel_rfl
theorem tab_tsz_175 : tsz Tryz.prog 175 = (some 1) := by kernel_rfl
theorem tab_tbytes_175 : tbytes Tryz.prog 175 = (some 8) := by kernel_rfl
theorem tab_tagg_175 : tagg Tryz.prog 175 = (some false) := by kernel_rfl
theorem tab_tsz_177 : tsz Tryz.prog 177 = (some 7) := by kernel_rfl
theorem tab_tbytes_177 : tbytes Tryz.prog 177 = (some 152) := by kernel_rfl
theorem tab_tagg_177 : tagg Tryz.prog 177 = (some true) := by kernel_rfl
theorem tab_tfields_177 : tfields Tryz.prog 177 = (some [(0, (4, true)), (4, (1, false)), (5, (1, false)), (6, (1, false))]) := by kernel_rfl
theorem tab_tsz_179 : tsz Tryz.prog 179 = (some 3) := by kernel_rfl
theorem tab_tbytes_179 : tbytes Tryz.prog 179 = (some 24) := by kernel_rfl
theorem tab_tagg_179 : tagg Tryz.prog 179 = (some true) := by kernel_rfl
theorem tab_tfields_179 : tfields Tryz.prog 179 = (some [(0, (1, false)), (1, (1, false)), (2, (1, false))]) := by kernel_rfl
theorem tab_teq_179 : teq Tryz.prog 179 = (some [(0, false), (1, false), (2, false)]) := by kernel_rfl
theorem tab_tsz_184 : tsz Tryz.prog 184 = (some 3) := by kernel_rfl
theorem tab_tbytes_184 : tbytes Tryz.prog 184 = (some 24) := by kernel_rfl
theorem tab_tagg_184 : tagg Tryz.prog 184 = (some true) := by kernel_rfl
theorem tab_tfields_184 : tfields Tryz.prog 184 = (some [(0, (1, false)), (1, (2, true))]) := by kernel_rfl
theorem tab_teq_184 : teq Tryz.prog 184 = (some [(0, false), (1, false), (2, false)]) := by kernel_rfl
theorem tab_tsz_191 : tsz Tryz.prog 191 = (some 6) := by kernel_rfl
theorem tab_tbytes_191 : tbytes Tryz.prog 191 = (some 48) := by kernel_rfl
theorem tab_tagg_191 : tagg Tryz.prog 191 = (some true) := by kernel_rfl
theorem tab_tfields_191 : tfields Tryz.prog 191 = (some [(0, (2, true)), (2, (2, true)), (4, (2, true))]) := by kernel_rfl
theorem tab_teq_191 : teq Tryz.prog 191 = (some [(0, false), (1, false), (2, false), (3, false), (4, false), (5, false)]) := by kernel_rfl
theorem tab_tsz_194 : tsz Tryz.prog 194 = (some 1) := by kernel_rfl
theorem tab_tbytes_194 : tbytes Tryz.prog 194 = (some 24) := by kernel_rfl
theorem tab_tagg_194 : tagg Tryz.prog 194 = (some false) := by kernel_rfl
theorem tab_tslice_194 : tslice Tryz.prog 194 = (some 27) := by kernel_rfl
theorem tab_tsz_203 : tsz Tryz.prog 203 = (some 4) := by kernel_rfl
theorem tab_tbytes_203 : tbytes Tryz.prog 203 = (some 32) := by kernel_rfl
theorem tab_tagg_203 : tagg Tryz.prog 203 = (some true) := by kernel_rfl
theorem tab_tfields_203 : tfields Tryz.prog 203 = (some [(0, (4, true))]) := by kernel_rfl
theorem tab_tsz_206 : tsz Tryz.prog 206 = (some 1) := by kernel_rfl
theorem tab_tbytes_206 : tbytes Tryz.prog 206 = (some 24) := by kernel_rfl
theorem tab_tagg_206 : tagg Tryz.prog 206 = (some false) := by kernel_rfl
theorem tab_tslice_206 : tslice Tryz.prog 206 = (some 4) := by kernel_rfl
theorem tab_tsz_208 : tsz Tryz.prog 208 = (some 1) := by kernel_rfl
theorem tab_tbytes_208 : tbytes Tryz.prog 208 = (some 8) := by kernel_rfl
theorem tab_tagg_208 : tagg Tryz.prog 208 = (some false) := by kernel_rfl
theorem tab_tsz_223 : tsz Tryz.prog 223 = (some 1) := by kernel_rfl
theorem tab_tbytes_223 : tbytes Tryz.prog 223 = (some 8) := by kernel_rfl
theorem tab_tagg_223 : tagg Tryz.prog 223 = (some false) := by kernel_rfl
theorem tab_tsz_228 : tsz Tryz.prog 228 = (some 1) := by kernel_rfl
theorem tab_tbytes_228 : tbytes Tryz.prog 228 = (some 8) := by kernel_rfl
theorem tab_tagg_228 : tagg Tryz.prog 228 = (some false) := by kernel_rfl
theorem tab_tsz_234 : tsz Tryz.prog 234 = (some 1) := by kernel_rfl
theorem tab_tbytes_234 : tbytes Tryz.prog 234 = (some 8) := by kernel_rfl
theorem tab_tagg_234 : tagg Tryz.prog 234 = (some false) := by kernel_rfl
theorem tab_tsz_246 : tsz Tryz.prog 246 = (some 1) := by kernel_rfl
theorem tab_tbytes_246 : tbytes Tryz.prog 246 = (some 8) := by kernel_rfl
theorem tab_tagg_246 : tagg Tryz.prog 246 = (some false) := by kernel_rfl
theorem tab_tsz_248 : tsz Tryz.prog 248 = (some 1) := by kernel_rfl
theorem tab_tbytes_248 : tbytes Tryz.prog 248 = (some 8) := by kernel_rfl
theorem tab_tagg_248 : tagg Tryz.prog 248 = (some false) := by kernel_rfl
theorem tab_tmapK_248 : tmapK Tryz.prog 248 = (some (none, 3)) := by kernel_rfl
theorem tab_tsz_249 : tsz Tryz.prog 249 = (some 1) := by kernel_rfl
theorem tab_tbytes_249 : tbytes Tryz.prog 249 = (some 8) := by kernel_rfl
theorem tab_tagg_249 : tagg Tryz.prog 249 = (some false) := by kernel_rfl
theorem tab_tsz_250 : tsz Tryz.prog 250 = (some 1) := by kernel_rfl
theorem tab_tbytes_250 : tbytes Tryz.prog 250 = (some 8) := by kernel_rfl
theorem tab_tagg_250 : tagg Tryz.prog 250 = (some false) := by kernel_rfl
theorem tab_tsz_251 : tsz Tryz.prog 251 = (some 1) := by kernel_rfl
theorem tab_tbytes_251 : tbytes Tryz.prog 251 = (some 8) := by kernel_rfl
theorem tab_tagg_251 : tagg Tryz.prog 251 = (some false) := by kernel_rfl
theorem tab_tsz_253 : tsz Tryz.prog 253 = (some 1) := by kernel_rfl
theorem tab_tbytes_253 : tbytes Tryz.prog 253 = (some 8) := by kernel_rfl
theorem tab_tagg_253 : tagg Tryz.prog 253 = (some false) := by kernel_rfl
theorem tab_tsz_261 : tsz Tryz.prog 261 = (some 1) := by kernel_rfl
theorem tab_tbytes_261 : tbytes Tryz.prog 261 = (some 8) := by kernel_rfl
theorem tab_tagg_261 : tagg Tryz.prog 261 = (some false) := by kernel_rfl
theorem tab_zero_1 : tzero Tryz.prog 1 = some Value.nilFunc := by kernel_rfl
theorem tab_zero_2 : tzero Tryz.prog 2 = some (Value.int IntKind.i64 0) := by kernel_rfl
theorem tab_zero_3 : tzero Tryz.prog 3 = some (Value.int IntKind.i64 0) := by kernel_rfl
theorem tab_zero_4 : tzero Tryz.prog 4 = some (Value.bool false) := by kernel_rfl
theorem tab_zero_17 : tzero Tryz.prog 17 = some (Value.pointer none) := by kernel_rfl
theorem tab_zero_22 : tzero Tryz.prog 22 = some (Value.slice none 0 0) := by kernel_rfl
theorem tab_zero_24 : tzero Tryz.prog 24 = some (Value.agg #[Value.slice none 0 0]) := by kernel_rfl
theorem tab_zero_25 : tzero Tryz.prog 25 = some (Value.slice none 0 0) := by kernel_rfl
theorem tab_zero_27 : tzero Tryz.prog 27 = some (Value.agg #[Value.int IntKind.i64 0, Value.int IntKind.i64 0]) := by kernel_rfl
theorem tab_zero_29 : tzero Tryz.prog 29 = some (Value.agg #[Value.int IntKind.i64 0, Value.int IntKind.i64 0, Value.int IntKind.i64 0, Value.int IntKind.i64 0, Value.int IntKind.i64 0]) := by kernel_rfl
theorem tab_zero_30 : tzero Tryz.prog 30 = some (Value.slice none 0 0) := by kernel_rfl
theorem tab_zero_32 : tzero Tryz.prog 32 = some (Value.agg #[Value.slice none 0 0, Value.slice none 0 0, Value.int IntKind.i64 0, Value.int IntKind.i64 0, Value.int IntKind.i64 0, Value.int IntKind.i64 0, Value.int IntKind.i64 0, Value.slice none 0 0]) := by kernel_rfl
theorem tab_zero_33 : tzero Tryz.prog 33 = some (Value.slice none 0 0) := by kernel_rfl
theorem tab_zero_34 : tzero Tryz.prog 34 = some (Value.slice none 0 0) := by kernel_rfl
theorem tab_zero_38 : tzero Tryz.prog 38 = some (Value.int IntKind.i64 0) := by kernel_rfl
theorem tab_zero_47 : tzero Tryz.prog 47 = some (Value.slice none 0 0) := by kernel_rfl
theorem tab_zero_51 : tzero Tryz.prog 51 = some (Value.agg #[Value.int IntKind.i64 0, Value.int IntKind.i64 0]) := by kernel_rfl
theorem tab_zero_71 : tzero Tryz.prog 71 = some (Value.slice none 0 0) := by kernel_rfl
theorem tab_zero_73 : tzero Tryz.prog 73 = some (Value.agg #[Value.slice none 0 0]) := by kernel_rfl
theorem tab_zero_75 : tzero Tryz.prog 75 = some (Value.slice none 0 0) := by kernel_rfl
theorem tab_zero_76 : tzero Tryz.prog 76 = some (Value.slice none 0 0) := by kernel_rfl
theorem tab_zero_77 : tzero Tryz.prog 77 = some (Value.slice none 0 0) := by kernel_rfl
theorem tab_zero_79 : tzero Tryz.prog 79 = some (Value.agg #[Value.slice none 0 0, Value.slice none 0 0, Value.slice none 0 0, Value.slice none 0 0]) := by kernel_rfl
theorem tab_zero_81 : tzero Tryz.prog 81 = some (Value.agg #[Value.slice none 0 0, Value.slice none 0 0, Value.int IntKind.i64 0, Value.int IntKind.i64 0, Value.int IntKind.i64 0, Value.int IntKind.i64 0, Value.int IntKind.i64 0, Value.slice none 0 0, Value.int IntKind.i64 0, Value.int IntKind.i64 0]) := by kernel_rfl
theorem tab_zero_93 : tzero Tryz.prog 93 = some (Value.agg #[Value.int IntKind.i64 0, Value.int IntKind.i64 0, Value.int IntKind.i64 0]) := by kernel_rfl
theorem tab_zero_95 : tzero Tryz.prog 95 = some (Value.agg #[Value.int IntKind.i64 0, Value.int IntKind.i64 0, Value.int IntKind.i64 0, Value.int IntKind.i64 0]) := by kernel_rfl
theorem tab_zero_97 : tzero Tryz.prog 97 = some (Value.agg #[Value.slice none 0 0, Value.slice none 0 0, Value.int IntKind.i64 0, Value.int IntKind.i64 0, Value.int IntKind.i64 0, Value.int IntKind.i64 0, Value.int IntKind.i64 0, Value.slice none 0 0, Value.int IntKind.i64 0, Value.int IntKind.i64 0, Value.int IntKind.i64 0, Value.int IntKind.i64 0, Value.int IntKind.i64 0, Value.int IntKind.i64 0]) := by kernel_rfl
theorem tab_zero_103 : tzero Tryz.prog 103 = some (Value.pointer none) := by kernel_rfl
theorem tab_zero_107 : tzero Tryz.prog 107 = some Value.nilFunc := by kernel_rfl
theorem tab_zero_109 : tzero Tryz.prog 109 = some (Value.agg #[Value.slice none 0 0, Value.slice none 0 0, Value.int IntKind.i64 0, Value.int IntKind.i64 0, Value.int IntKind.i64 0, Value.int IntKind.i64 0, Value.int IntKind.i64 0, Value.slice none 0 0, Value.slice none 0 0, Value.int IntKind.i64 0]) := by kernel_rfl
theorem tab_zero_114 : tzero Tryz.prog 114 = some Value.nilFunc := by kernel_rfl
theorem tab_zero_122 : tzero Tryz.prog 122 = some (Value.agg #[Value.int IntKind.i64 0, Value.int IntKind.i64 0, Value.int IntKind.i64 0, Value.int IntKind.i64 0]) := by kernel_rfl
theorem tab_zero_123 : tzero Tryz.prog 123 = some Value.nilFunc := by kernel_rfl
theorem tab_zero_125 : tzero Tryz.prog 125 = some (Value.agg #[Value.int IntKind.i64 0, Value.int IntKind.i64 0, Value.int IntKind.i64 0, Value.int IntKind.i64 0, Value.int IntKind.i64 0, Value.int IntKind.i64 0, Value.int IntKind.i64 0]) := by kernel_rfl
theorem tab_zero_126 : tzero Tryz.prog 126 = some Value.nilFunc := by kernel_rfl
theorem tab_zero_150 : tzero Tryz.prog 150 = some (Value.pointer none) := by kernel_rfl
theorem tab_zero_154 : tzero Tryz.prog 154 = some (Value.agg #[Value.int IntKind.i64 0, Value.bool false]) := by kernel_rfl
theorem tab_zero_155 : tzero Tryz.prog 155 = some (Value.slice none 0 0) := by kernel_rfl
theorem tab_zero_157 : tzero Tryz.prog 157 = some (Value.agg #[Value.slice none 0 0, Value.slice none 0 0, Value.int IntKind.i64 0]) := by kernel_rfl
theorem tab_zero_160 : tzero Tryz.prog 160 = some (Value.slice none 0 0) := by kernel_rfl
theorem tab_zero_162 : tzero Tryz.prog 162 = some (Value.agg #[Value.slice none 0 0]) := by kernel_rfl
theorem tab_zero_168 : tzero Tryz.prog 168 = some (Value.agg #[Value.slice none 0 0, Value.slice none 0 0, Value.slice none 0 0, Value.slice none 0 0]) := by kernel_rfl
theorem tab_zero_171 : tzero Tryz.prog 171 = some (Value.pointer none) := by kernel_rfl
theorem tab_zero_175 : tzero Tryz.prog 175 = some Value.nilFunc := by kernel_rfl
theorem tab_zero_177 : tzero Tryz.prog 177 = some (Value.agg #[Value.slice none 0 0, Value.slice none 0 0, Value.slice none 0 0, Value.slice none 0 0, Value.slice none 0 0, Value.slice none 0 0, Value.int IntKind.i64 0]) := by kernel_rfl
theorem tab_zero_179 : tzero Tryz.prog 179 = some (Value.agg #[Value.int IntKind.i64 0, Value.int IntKind.i64 0, Value.int IntKind.i64 0]) := by kernel_rfl
theorem tab_zero_184 : tzero Tryz.prog 184 = some (Value.agg #[Value.int IntKind.i64 0, Value.int IntKind.i64 0, Value.int IntKind.i64 0]) := by kernel_rfl
theorem tab_zero_191 : tzero Tryz.prog 191 = some (Value.agg #[Value.int IntKind.i64 0, Value.int IntKind.i64 0, Value.int IntKind.i64 0, Value.int IntKind.i64 0, Value.int IntKind.i64 0, Value.int IntKind.i64 0]) := by kernel_rfl
theorem tab_zero_194 : tzero Tryz.prog 194 = some (Value.slice none 0 0) := by kernel_rfl
theorem tab_zero_203 : tzero Tryz.prog 203 = some (Value.agg #[Value.int IntKind.i64 0, Value.int IntKind.i64 0, Value.int IntKind.i64 0, Value.int IntKind.i64 0]) := by kernel_rfl
theorem tab_zero_206 : tzero Tryz.prog 206 = some (Value.slice none 0 0) := by kernel_rfl
theorem tab_zero_208 : tzero Tryz.prog 208 = some Value.nilFunc := by kernel_rfl
theorem tab_zero_223 : tzero Tryz.prog 223 = some Value.nilFunc := by kernel_rfl
theorem tab_zero_228 : tzero Tryz.prog 228 = some Value.nilFunc := by kernel_rfl
theorem tab_zero_234 : tzero Tryz.prog 234 = some Value.nilFunc := by kernel_rfl
theorem tab_zero_246 : tzero Tryz.prog 246 = some Value.nilFunc := by kernel_rfl
theorem tab_zero_248 : tzero Tryz.prog 248 = some (Value.map none) := by kernel_rfl
theorem tab_zero_249 : tzero Tryz.prog 249 = some Value.nilFunc := by kernel_rfl
theorem tab_zero_250 : tzero Tryz.prog 250 = some Value.nilFunc := by kernel_rfl
theorem tab_zero_251 : tzero Tryz.prog 251 = some Value.nilFunc := by kernel_rfl
theorem tab_zero_253 : tzero Tryz.prog 253 = some Value.nilFunc := by kernel_rfl
theorem tab_zero_261 : tzero Tryz.prog 261 = some Value.nilFunc := by kernel_rfl
attribute [go_sem] tab_tsz_0 tab_tbytes_0 tab_tagg_0 tab_tsz_1 tab_tbytes_1 tab_tagg_1 tab_tsz_2 tab_tbytes_2 tab_tagg_2 tab_tint_2 tab_tsz_3 tab_tbytes_3 tab_tagg_3 tab_tint_3 tab_tsz_4 tab_tbytes_4 tab_tagg_4 tab_tsz_17 tab_tbytes_17 tab_tagg_17 tab_tsz_22 tab_tbytes_22 tab_tagg_22 tab_tslice_22 tab_tsz_24 tab_tbytes_24 tab_tagg_24 tab_tfields_24 tab_tsz_25 tab_tbytes_25 tab_tagg_25 tab_tslice_25 tab_tsz_27 tab_tbytes_27 tab_tagg_27 tab_tfields_27 tab_teq_27 tab_tsz_29 tab_tbytes_29 tab_tagg_29 tab_tfields_29 tab_teq_29 tab_tsz_30 tab_tbytes_30 tab_tagg_30 tab_tslice_30 tab_tsz_32 tab_tbytes_32 tab_tagg_32 tab_tfields_32 tab_tsz_33 tab_tbytes_33 tab_tagg_33 tab_tslice_33 tab_tsz_34 tab_tbytes_34 tab_tagg_34 tab_tslice_34 tab_tsz_38 tab_tbytes_38 tab_tagg_38 tab_tint_38 tab_tsz_47 tab_tbytes_47 tab_tagg_47 tab_tslice_47 tab_tsz_51 tab_tbytes_51 tab_tagg_51 tab_tfields_51 tab_teq_51 tab_tsz_71 tab_tbytes_71 tab_tagg_71 tab_tslice_71 tab_tsz_73 tab_tbytes_73 tab_tagg_73 tab_tfields_73 tab_tsz_75 tab_tbytes_75 tab_tagg_75 tab_tslice_75 tab_tsz_76 tab_tbytes_76 tab_tagg_76 tab_tslice_76 tab_tsz_77 tab_tbytes_77 tab_tagg_77 tab_tslice_77 tab_tsz_79 tab_tbytes_79 tab_tagg_79 tab_tfields_79 tab_tsz_81 tab_tbytes_81 tab_tagg_81 tab_tfields_81 tab_tsz_93 tab_tbytes_93 tab_tagg_93 tab_tfields_93 tab_teq_93 tab_tsz_95 tab_tbytes_95 tab_tagg_95 tab_tfields_95 tab_teq_95 tab_tsz_97 tab_tbytes_97 tab_tagg_97 tab_tfields_97 tab_tsz_103 tab_tbytes_103 tab_tagg_103 tab_tsz_107 tab_tbytes_107 tab_tagg_107 tab_tsz_109 tab_tbytes_109 tab_tagg_109 tab_tfields_109 tab_tsz_114 tab_tbytes_114 tab_tagg_114 tab_tsz_122 tab_tbytes_122 tab_tagg_122 tab_tfields_122 tab_teq_122 tab_tsz_123 tab_tbytes_123 tab_tagg_123 tab_tsz_125 tab_tbytes_125 tab_tagg_125 tab_tfields_125 tab_tsz_126 tab_tbytes_126 tab_tagg_126 tab_tsz_150 tab_tbytes_150 tab_tagg_150 tab_tsz_154 tab_tbytes_154 tab_tagg_154 tab_tfields_154 tab_teq_154 tab_tsz_155 tab_tbytes_155 tab_tagg_155 tab_tslice_155 tab_tsz_157 tab_tbytes_157 tab_tagg_157 tab_tfields_157 tab_tsz_160 tab_tbytes_160 tab_tagg_160 tab_tslice_160 tab_tsz_162 tab_tbytes_162 tab_tagg_162 tab_tfields_162 tab_tsz_168 tab_tbytes_168 tab_tagg_168 tab_tfields_168 tab_tsz_171 tab_tbytes_171 tab_tagg_171 tab_tsz_175 tab_tbytes_175 tab_tagg_175 tab_tsz_177 tab_tbytes_177 tab_tagg_177 tab_tfields_177 tab_tsz_179 tab_tbytes_179 tab_tagg_179 tab_tfields_179 tab_teq_179 tab_tsz_184 tab_tbytes_184 tab_tagg_184 tab_tfields_184 tab_teq_184 tab_tsz_191 tab_tbytes_191 tab_tagg_191 tab_tfields_191 tab_teq_191 tab_tsz_194 tab_tbytes_194 tab_tagg_194 tab_tslice_194 tab_tsz_203 tab_tbytes_203 tab_tagg_203 tab_tfields_203 tab_tsz_206 tab_tbytes_206 tab_tagg_206 tab_tslice_206 tab_tsz_208 tab_tbytes_208 tab_tagg_208 tab_tsz_223 tab_tbytes_223 tab_tagg_223 tab_tsz_228 tab_tbytes_228 tab_tagg_228 tab_tsz_234 tab_tbytes_234 tab_tagg_234 tab_tsz_246 tab_tbytes_246 tab_tagg_246 tab_tsz_248 tab_tbytes_248 tab_tagg_248 tab_tmapK_248 tab_tsz_249 tab_tbytes_249 tab_tagg_249 tab_tsz_250 tab_tbytes_250 tab_tagg_250 tab_tsz_251 tab_tbytes_251 tab_tagg_251 tab_tsz_253 tab_tbytes_253 tab_tagg_253 tab_tsz_261 tab_tbytes_261 tab_tagg_261 tab_zero_1 tab_zero_2 tab_zero_3 tab_zero_4 tab_zero_17 tab_zero_22 tab_zero_24 tab_zero_25 tab_zero_27 tab_zero_29 tab_zero_30 tab_zero_32 tab_zero_33 tab_zero_34 tab_zero_38 tab_zero_47 tab_zero_51 tab_zero_71 tab_zero_73 tab_zero_75 tab_zero_76 tab_zero_77 tab_zero_79 tab_zero_81 tab_zero_93 tab_zero_95 tab_zero_97 tab_zero_103 tab_zero_107 tab_zero_109 tab_zero_114 tab_zero_122 tab_zero_123 tab_zero_125 tab_zero_126 tab_zero_150 tab_zero_154 tab_zero_155 tab_zero_157 tab_zero_160 tab_zero_162 tab_zero_168 tab_zero_171 tab_zero_175 tab_zero_177 tab_zero_179 tab_zero_184 tab_zero_191 tab_zero_194 tab_zero_203 tab_zero_206 tab_zero_208 tab_zero_223 tab_zero_228 tab_zero_234 tab_zero_246 tab_zero_248 tab_zero_249 tab_zero_250 tab_zero_251 tab_zero_253 tab_zero_261 Tryz.underlying2 Tryz.underlying3 Tryz.underlying4 Tryz.underlying17 Tryz.underlying38 Tryz.underlying103 Tryz.underlying150 Tryz.underlying171
end Go.Ab
namespace Go.Ab
open Go.RowKit Go.Proofs
structure Span where
  lo : Int
  hi : Int
structure Hour where
  wind : Span
  rain : Span
  temp : Span
structure Sky where
  wind : Int
  rain : Int
  temp : Int
structure Sight where
  hour : Int
  sky : Sky
structure Plant where
  scen : List (List Hour)
  seen : List Sight
  sun : List Int
  gain : Int
  start : Int
  stop : Int
  charge : Int
  capacity : Int
  reserve : Int
  gas : Int
  rate : Int
  units : Int
  needs : List Int
def Span.row (s : Span) : List DV := [.i s.lo, .i s.hi]
def Hour.row (h : Hour) : List DV := [.i h.wind.lo, .i h.wind.hi, .i h.rain.lo, .i h.rain.hi, .i h.temp.lo, .i h.temp.hi]
def Sky.row (s : Sky) : List DV := [.i s.wind, .i s.rain, .i s.temp]
def Sight.row (s : Sight) : List DV := [.i s.hour, .i s.sky.wind, .i s.sky.rain, .i s.sky.temp]
def hourRows (l : List Hour) : List (List DV) := l.map Hour.row
def scenRows (l : List (List Hour)) : List (List DV) := l.map fun h => [.sl (hourRows h)]
def intRows (l : List Int) : List (List DV) := l.map fun x => [.i x]
def sightRows (l : List Sight) : List (List DV) := l.map Sight.row
def skyRows (l : List Sky) : List (List DV) := l.map Sky.row
def Plant.cells (p : Plant) : List DV := [.sl (scenRows p.scen), .sl (sightRows p.seen), .sl (intRows p.sun), .i p.gain, .i p.start, .i p.stop, .i p.charge, .i p.capacity, .i p.reserve, .i p.gas, .i p.rate, .i p.units, .sl (intRows p.needs)]
theorem hourRows_len (l : List Hour) : (hourRows l).length = l.length := by simp [hourRows]
theorem scenRows_len (l : List (List Hour)) : (scenRows l).length = l.length := by simp [scenRows]
theorem intRows_len (l : List Int) : (intRows l).length = l.length := by simp [intRows]
theorem sightRows_len (l : List Sight) : (sightRows l).length = l.length := by simp [sightRows]
theorem skyRows_len (l : List Sky) : (skyRows l).length = l.length := by simp [skyRows]
theorem hourRows_at {l : List Hour} {i : Nat} {x : Hour} (h : l[i]? = some x) : (hourRows l)[i]? = some x.row := by simp [hourRows, h]
theorem scenRows_at {l : List (List Hour)} {i : Nat} {x : List Hour} (h : l[i]? = some x) : (scenRows l)[i]? = some [.sl (hourRows x)] := by simp [scenRows, h]
theorem intRows_at {l : List Int} {i : Nat} {x : Int} (h : l[i]? = some x) : (intRows l)[i]? = some [.i x] := by simp [intRows, h]
theorem sightRows_at {l : List Sight} {i : Nat} {x : Sight} (h : l[i]? = some x) : (sightRows l)[i]? = some x.row := by simp [sightRows, h]
theorem hourRows_head (l : List Hour) : headIs 6 (hourRows l) = true := by cases l <;> rfl
theorem scenRows_head (l : List (List Hour)) : headIs 1 (scenRows l) = true := by cases l <;> rfl
theorem intRows_head (l : List Int) : headIs 1 (intRows l) = true := by cases l <;> rfl
theorem sightRows_head (l : List Sight) : headIs 4 (sightRows l) = true := by cases l <;> rfl
theorem skyRows_head (l : List Sky) : headIs 3 (skyRows l) = true := by cases l <;> rfl
attribute [go_sem] hourRows_len scenRows_len intRows_len sightRows_len skyRows_len hourRows_head scenRows_head intRows_head sightRows_head skyRows_head
theorem rowsFlat_map {α : Type} {f : α → List DV} (h : ∀ x, ∀ d ∈ f x, d.flat = true) (l : List α) : rowsFlat (l.map f) := by
  intro r hr d hd
  obtain ⟨x, _, rfl⟩ := List.mem_map.1 hr
  exact h x d hd
theorem rowsFlat_int (l : List Int) : rowsFlat (intRows l) := rowsFlat_map (by intro x d hd; simp at hd; subst hd; rfl) l
theorem rowsFlat_hour (l : List Hour) : rowsFlat (hourRows l) := rowsFlat_map (by intro x d hd; simp [Hour.row] at hd; rcases hd with rfl | rfl | rfl | rfl | rfl | rfl <;> rfl) l
theorem rowsFlat_sight (l : List Sight) : rowsFlat (sightRows l) := rowsFlat_map (by intro x d hd; simp [Sight.row] at hd; rcases hd with rfl | rfl | rfl | rfl <;> rfl) l
theorem rowsFlat_sky (l : List Sky) : rowsFlat (skyRows l) := rowsFlat_map (by intro x d hd; simp [Sky.row] at hd; rcases hd with rfl | rfl | rfl <;> rfl) l
abbrev wr (x : Int) : Int := IntKind.i64.wrap x
theorem wr_small {x : Int} (h : -(2 ^ 63) ≤ x ∧ x < 2 ^ 63) : IntKind.i64.wrap x = x := by
  rw [IntKind.wrap_i64]; omega
theorem foldl_take_succ {α β : Type} (f : β → α → β) (b : β) (l : List α) (i : Nat) (x : α) (h : l[i]? = some x) : (l.take (i + 1)).foldl f b = f ((l.take i).foldl f b) x := by
  rw [List.take_add_one, h]; simp
theorem drop_get {α : Type} {l : List α} {i : Nat} {x : α} (h : l[i]? = some x) : l.drop i = x :: l.drop (i + 1) := by
  obtain ⟨hlt, rfl⟩ := List.getElem?_eq_some_iff.1 h
  exact List.drop_eq_getElem_cons hlt
def idxFrom {α : Type} (q : α → Bool) : List α → Nat → Int
  | [], _ => -1
  | x :: xs, i => if q x then (i : Int) else idxFrom q xs (i + 1)
theorem idxFrom_nonneg {α : Type} (q : α → Bool) : ∀ (l : List α) (i : Nat), decide (idxFrom q l i ≥ 0) = l.any q
  | [], i => by simp [idxFrom]
  | x :: xs, i => by
    simp only [idxFrom, List.any_cons]
    by_cases h : q x
    · simp [h]
    · simp [h, ← idxFrom_nonneg q xs (i + 1)]
theorem any_not {α : Type} (l : List α) (q : α → Bool) : (!(l.any fun s => !q s)) = l.all q := by
  induction l with
  | nil => rfl
  | cons x xs ih => simp only [List.any_cons, List.all_cons, ← ih]; cases q x <;> simp
theorem any_of_get {α : Type} {l : List α} {q : α → Bool} {i : Nat} {x : α} (h : l[i]? = some x) (hq : q x = true) : l.any q = true :=
  List.any_eq_true.2 ⟨x, List.mem_of_getElem? h, hq⟩
theorem any_take_succ {α : Type} {l : List α} {q : α → Bool} {i : Nat} {x : α} (h : l[i]? = some x) (h0 : (l.take i).any q = false) (hq : q x = false) : (l.take (i + 1)).any q = false := by
  rw [List.take_add_one, h]; simp [h0, hq]
theorem all_take_succ {α : Type} {l : List α} {q : α → Bool} {i : Nat} {x : α} (h : l[i]? = some x) (h0 : (l.take i).all q = true) (hq : q x = true) : (l.take (i + 1)).all q = true := by
  rw [List.take_add_one, h]; simp [h0, hq]
theorem all_of_get {α : Type} {l : List α} {q : α → Bool} {i : Nat} {x : α} (h : l[i]? = some x) (hq : q x = false) : l.all q = false := by
  cases hc : l.all q with
  | false => rfl
  | true => rw [List.all_eq_true] at hc; have := hc x (List.mem_of_getElem? h); rw [hq] at this; cases this
theorem reify_caps (m : List (Option Blk)) (x : AV) (d : DV) (caps : List DV) (h : reify m deep x = some d) : allSome ((x :: caps.map AV.d).map (reify m deep)) = some (d :: caps) := by
  have : ∀ l : List DV, allSome ((l.map AV.d).map (reify m deep)) = some l := by
    intro l
    induction l with
    | nil => rfl
    | cons a l ih =>
      simp only [List.map_cons]
      rw [show reify m deep (AV.d a) = some a from rfl]
      simp only [allSome, ih, Option.map_some]
  simp only [List.map_cons, h, allSome]
  rw [this caps]
  rfl
def getI (l : List Int) (i : Int) : Int := l.getD i.toNat 0
end Go.Ab
namespace Go.Ab
open Go.RowKit Go.Proofs
set_option maxHeartbeats 4000000
set_option maxRecDepth 20000
attribute [local irreducible] WalkL Walk
def withinB (n lo hi : Int) : Bool := decide (lo ≤ n) && decide (n ≤ hi)
def orderedB (s : Span) (lo hi : Int) : Bool := decide (lo ≤ s.lo) && (decide (s.lo ≤ s.hi) && decide (s.hi ≤ hi))
theorem within_iff {x lo hi : Int} : withinB x lo hi = true ↔ lo ≤ x ∧ x ≤ hi := by simp [withinB]
theorem zf145 (n lo hi : Int) : Fn Tryz.prog 145 [.i n, .i lo, .i hi] (.bool (withinB n lo hi)) := by
  refine fn_walk 15 Tryz.call145 Tryz.func145 rfl (by decide) fun J => ?_
  simp (maxSteps := 4000000) only [go_sem, St.start, Tryz.ntmps145, Tryz.results145]
  by_cases h : lo ≤ n
  · repeat (first | refine walkL_seq ?_ | refine walkL_skip ?_ | refine walkL_block ?_ | (refine walkL_region fun K hK => ?_; simp (maxSteps := 4000000) only [go_sem, h]; refine hK _ ?_; clear hK K) | refine walkL_nil ?_ | refine walkL_ret ?_ | refine walkL_exit ?_ | refine blockA_here ?_ | refine blockA_other rfl ?_ | refine blockA_ret ?_ | refine blockA_normal ?_ | refine thenA_ret ?_ | refine thenA_exit ?_ | refine thenA_normal ?_)
    simp (maxSteps := 4000000) only [go_sem, withinB, h]
  · repeat (first | refine walkL_seq ?_ | refine walkL_skip ?_ | refine walkL_block ?_ | (refine walkL_region fun K hK => ?_; simp (maxSteps := 4000000) only [go_sem, h]; refine hK _ ?_; clear hK K) | refine walkL_nil ?_ | refine walkL_ret ?_ | refine walkL_exit ?_ | refine blockA_here ?_ | refine blockA_other rfl ?_ | refine blockA_ret ?_ | refine blockA_normal ?_ | refine thenA_ret ?_ | refine thenA_exit ?_ | refine thenA_normal ?_)
    simp (maxSteps := 4000000) only [go_sem, withinB, h]
theorem zf202 (s : Span) (lo hi : Int) : Fn Tryz.prog 202 [.agg s.row, .i lo, .i hi] (.bool (orderedB s lo hi)) := by
  refine fn_walk 24 Tryz.call202 Tryz.func202 rfl (by decide) fun J => ?_
  simp (maxSteps := 4000000) only [go_sem, St.start, Tryz.ntmps202, Tryz.results202, Span.row]
  by_cases h : lo ≤ s.lo <;> by_cases h2 : s.lo ≤ s.hi
  all_goals
    repeat (first | refine walkL_seq ?_ | refine walkL_skip ?_ | refine walkL_block ?_ | (refine walkL_region fun K hK => ?_; simp (maxSteps := 4000000) only [go_sem, h, h2]; refine hK _ ?_; clear hK K) | refine walkL_nil ?_ | refine walkL_ret ?_ | refine walkL_exit ?_ | refine blockA_here ?_ | refine blockA_other rfl ?_ | refine blockA_ret ?_ | refine blockA_normal ?_ | refine thenA_ret ?_ | refine thenA_exit ?_ | refine thenA_normal ?_)
    simp (maxSteps := 4000000) only [go_sem, orderedB, h, h2]
def hourB (h : Hour) : Bool := orderedB h.wind 0 200 && (orderedB h.rain 0 100 && orderedB h.temp (-50) 50)
theorem zf164 (h : Hour) : Fn Tryz.prog 164 [.agg h.row] (.bool (hourB h)) := by
  have h1 := zf202 h.wind 0 200
  have h2 := zf202 h.rain 0 100
  have h3 := zf202 h.temp (-50) 50
  rw [Span.row] at h1 h2 h3
  obtain ⟨b1, e1⟩ : ∃ b, b = orderedB h.wind 0 200 := ⟨_, rfl⟩
  obtain ⟨b2, e2⟩ : ∃ b, b = orderedB h.rain 0 100 := ⟨_, rfl⟩
  obtain ⟨b3, e3⟩ : ∃ b, b = orderedB h.temp (-50) 50 := ⟨_, rfl⟩
  rw [hourB, ← e1, ← e2, ← e3]
  rw [← e1] at h1
  rw [← e2] at h2
  rw [← e3] at h3
  refine fn_walk 16 Tryz.call164 Tryz.func164 rfl (by decide) fun J => ?_
  simp (maxSteps := 4000000) only [go_sem, St.start, Tryz.ntmps164, Tryz.results164, Hour.row]
  cases b1 <;> cases b2
  all_goals
    repeat (first | refine walkL_seq ?_ | refine walkL_skip ?_ | refine walkL_block ?_ | (refine walkL_region fun K hK => ?_; simp (maxSteps := 4000000) only [go_sem]; (repeat (first | (refine ⟨_, .lent (hf := h1) (hd := rfl) (hr := rfl), ?_⟩; simp (maxSteps := 4000000) only [go_sem]) | (refine ⟨_, .lent (hf := h2) (hd := rfl) (hr := rfl), ?_⟩; simp (maxSteps := 4000000) only [go_sem]) | (refine ⟨_, .lent (hf := h3) (hd := rfl) (hr := rfl), ?_⟩; simp (maxSteps := 4000000) only [go_sem]) | (refine ⟨_, .given (hf := h1) (hd := rfl) (ha := rfl), ?_⟩; simp (maxSteps := 4000000) only [go_sem]) | (refine ⟨_, .given (hf := h2) (hd := rfl) (ha := rfl), ?_⟩; simp (maxSteps := 4000000) only [go_sem]) | (refine ⟨_, .given (hf := h3) (hd := rfl) (ha := rfl), ?_⟩; simp (maxSteps := 4000000) only [go_sem]))); refine hK _ ?_; clear hK K) | refine walkL_nil ?_ | refine walkL_ret ?_ | refine walkL_exit ?_ | refine blockA_here ?_ | refine blockA_other rfl ?_ | refine blockA_ret ?_ | refine blockA_normal ?_ | refine thenA_ret ?_ | refine thenA_exit ?_ | refine thenA_normal ?_)
    simp (maxSteps := 4000000) only [go_sem]
theorem zf168 (n : Int) : Fn Tryz.prog 168 [.i n] (.agg [.i n, .i n]) := by
  refine fn_walk 6 Tryz.call168 Tryz.func168 rfl (by decide) fun J => ?_
  simp (maxSteps := 4000000) only [go_sem, St.start, Tryz.ntmps168, Tryz.results168]
  repeat (first | refine walkL_seq ?_ | refine walkL_skip ?_ | refine walkL_block ?_ | (refine walkL_region fun K hK => ?_; simp (maxSteps := 4000000) only [go_sem]; refine hK _ ?_; clear hK K) | refine walkL_nil ?_ | refine walkL_ret ?_ | refine walkL_exit ?_ | refine blockA_here ?_ | refine blockA_other rfl ?_ | refine blockA_ret ?_ | refine blockA_normal ?_ | refine thenA_ret ?_ | refine thenA_exit ?_ | refine thenA_normal ?_)
  simp (maxSteps := 4000000) only [go_sem]
def pointH (s : Sky) : Hour := ⟨⟨s.wind, s.wind⟩, ⟨s.rain, s.rain⟩, ⟨s.temp, s.temp⟩⟩
theorem zf132 (s : Sky) : Fn Tryz.prog 132 [.agg s.row] (.agg (pointH s).row) := by
  refine fn_walk 17 Tryz.call132 Tryz.func132 rfl (by decide) fun J => ?_
  simp (maxSteps := 4000000) only [go_sem, St.start, Tryz.ntmps132, Tryz.results132, Sky.row]
  repeat (first | refine walkL_seq ?_ | refine walkL_skip ?_ | refine walkL_block ?_ | (refine walkL_region fun K hK => ?_; simp (maxSteps := 4000000) only [go_sem]; refine hK _ ?_; clear hK K) | refine walkL_nil ?_ | refine walkL_ret ?_ | refine walkL_exit ?_ | refine blockA_here ?_ | refine blockA_other rfl ?_ | refine blockA_ret ?_ | refine blockA_normal ?_ | refine thenA_ret ?_ | refine thenA_exit ?_ | refine thenA_normal ?_)
  refine walkL_drawn (by kernel_rfl) (by kernel_rfl) fun K hK => ?_
  simp (maxSteps := 4000000) only [go_sem]
  refine ⟨_, .fn (hf := zf168 s.wind) (hd := rfl) (hr := .inl rfl), ?_⟩
  simp (maxSteps := 4000000) only [go_sem]
  refine ⟨_, .fn (hf := zf168 s.rain) (hd := rfl) (hr := .inl rfl), ?_⟩
  simp (maxSteps := 4000000) only [go_sem]
  refine ⟨_, .fn (hf := zf168 s.temp) (hd := rfl) (hr := .inl rfl), ?_⟩
  simp (maxSteps := 4000000) only [go_sem]
  refine ⟨by kernel_rfl, hK _ ?_⟩
  clear hK K
  repeat (first | refine walkL_seq ?_ | refine walkL_skip ?_ | refine walkL_block ?_ | (refine walkL_region fun K hK => ?_; simp (maxSteps := 4000000) only [go_sem]; refine hK _ ?_; clear hK K) | refine walkL_nil ?_ | refine walkL_ret ?_ | refine walkL_exit ?_ | refine blockA_here ?_ | refine blockA_other rfl ?_ | refine blockA_ret ?_ | refine blockA_normal ?_ | refine thenA_ret ?_ | refine thenA_exit ?_ | refine thenA_normal ?_)
  simp (maxSteps := 4000000) only [go_sem, pointH, Hour.row]
def insideB (s : Sky) (h : Hour) : Bool := withinB s.wind h.wind.lo h.wind.hi && (withinB s.rain h.rain.lo h.rain.hi && withinB s.temp h.temp.lo h.temp.hi)
theorem zf131 (s : Sky) (h : Hour) : Fn Tryz.prog 131 [.agg s.row, .agg h.row] (.bool (insideB s h)) := by
  have h1 := zf145 s.wind h.wind.lo h.wind.hi
  have h2 := zf145 s.rain h.rain.lo h.rain.hi
  have h3 := zf145 s.temp h.temp.lo h.temp.hi
  obtain ⟨b1, e1⟩ : ∃ b, b = withinB s.wind h.wind.lo h.wind.hi := ⟨_, rfl⟩
  obtain ⟨b2, e2⟩ : ∃ b, b = withinB s.rain h.rain.lo h.rain.hi := ⟨_, rfl⟩
  obtain ⟨b3, e3⟩ : ∃ b, b = withinB s.temp h.temp.lo h.temp.hi := ⟨_, rfl⟩
  rw [insideB, ← e1, ← e2, ← e3]
  rw [← e1] at h1
  rw [← e2] at h2
  rw [← e3] at h3
  refine fn_walk 36 Tryz.call131 Tryz.func131 rfl (by decide) fun J => ?_
  simp (maxSteps := 4000000) only [go_sem, St.start, Tryz.ntmps131, Tryz.results131, Hour.row, Sky.row]
  cases b1 <;> cases b2
  all_goals
    repeat (first | refine walkL_seq ?_ | refine walkL_skip ?_ | refine walkL_block ?_ | (refine walkL_region fun K hK => ?_; simp (maxSteps := 4000000) only [go_sem]; (repeat (first | (refine ⟨_, .lent (hf := h1) (hd := rfl) (hr := rfl), ?_⟩; simp (maxSteps := 4000000) only [go_sem]) | (refine ⟨_, .lent (hf := h2) (hd := rfl) (hr := rfl), ?_⟩; simp (maxSteps := 4000000) only [go_sem]) | (refine ⟨_, .lent (hf := h3) (hd := rfl) (hr := rfl), ?_⟩; simp (maxSteps := 4000000) only [go_sem]) | (refine ⟨_, .given (hf := h1) (hd := rfl) (ha := rfl), ?_⟩; simp (maxSteps := 4000000) only [go_sem]) | (refine ⟨_, .given (hf := h2) (hd := rfl) (ha := rfl), ?_⟩; simp (maxSteps := 4000000) only [go_sem]) | (refine ⟨_, .given (hf := h3) (hd := rfl) (ha := rfl), ?_⟩; simp (maxSteps := 4000000) only [go_sem]))); refine hK _ ?_; clear hK K) | refine walkL_nil ?_ | refine walkL_ret ?_ | refine walkL_exit ?_ | refine blockA_here ?_ | refine blockA_other rfl ?_ | refine blockA_ret ?_ | refine blockA_normal ?_ | refine thenA_ret ?_ | refine thenA_exit ?_ | refine thenA_normal ?_)
    simp (maxSteps := 4000000) only [go_sem]
theorem zf205 (xs : List Sight) (g : Nat) (caps : List DV) (q : Sight → Bool) (hq : ∀ s ∈ xs, Fn Tryz.prog g (.agg s.row :: caps) (.bool (q s))) (hl : xs.length < 2 ^ 62) : Fn Tryz.prog 205 [.sl (sightRows xs), .fn g caps] (.i (idxFrom q xs 0)) := by
  refine fn_walk 19 Tryz.call205 Tryz.func205 rfl (by decide) fun J => ?_
  simp (maxSteps := 4000000) only [go_sem, St.start, Tryz.ntmps205, Tryz.results205]
  repeat (first | refine walkL_seq ?_ | refine walkL_skip ?_ | refine walkL_block ?_ | (refine walkL_region fun K hK => ?_; simp (maxSteps := 4000000) only [go_sem]; refine hK _ ?_; clear hK K) | refine walkL_nil ?_ | refine walkL_ret ?_ | refine walkL_exit ?_ | refine blockA_here ?_ | refine blockA_other rfl ?_ | refine blockA_ret ?_ | refine blockA_normal ?_ | refine thenA_ret ?_ | refine thenA_exit ?_ | refine thenA_normal ?_)
  refine walkL_loopS (fun (i : Nat) => [(8, .d (.i i))]) (fun _ => []) (fun i => i ≤ xs.length ∧ idxFrom q xs 0 = idxFrom q (xs.drop i) i) (fun i => xs.length - i) 0 ?_ ⟨Nat.zero_le _, rfl⟩ ?_
  · simp (maxSteps := 4000000) only [go_sem]
    refine weak_of [] ?_ ?_ rfl rfl <;> simp [lessT, lessM, lessB, AV.less]
  · intro i ⟨hi, hq0⟩
    simp (maxSteps := 4000000) only [go_sem]
    repeat (first | refine walkL_seq ?_ | refine walkL_skip ?_ | refine walkL_block ?_ | (refine walkL_region fun K hK => ?_; simp (maxSteps := 4000000) only [go_sem]; refine hK _ ?_; clear hK K) | refine walkL_nil ?_ | refine walkL_ret ?_ | refine walkL_exit ?_ | refine blockA_here ?_ | refine blockA_other rfl ?_ | refine blockA_ret ?_ | refine blockA_normal ?_ | refine thenA_ret ?_ | refine thenA_exit ?_ | refine thenA_normal ?_)
    refine walkL_cond rfl (fun hb => ?_) (fun hb => ?_)
    · have hlt : i < xs.length := by simpa using hb
      have hw : IntKind.i64.wrap ((i : Int) + 1) = ((i + 1 : Nat) : Int) := by rw [wr_small (by omega)]; simp
      obtain ⟨s, hs⟩ : ∃ s, xs[i]? = some s := ⟨_, List.getElem?_eq_getElem hlt⟩
      rw [drop_get hs, idxFrom] at hq0
      repeat (first | refine walkL_seq ?_ | refine walkL_skip ?_ | refine walkL_block ?_ | (refine walkL_region fun K hK => ?_; simp (maxSteps := 4000000) only [go_sem]; refine hK _ ?_; clear hK K) | refine walkL_nil ?_ | refine walkL_ret ?_ | refine walkL_exit ?_ | refine blockA_here ?_ | refine blockA_other rfl ?_ | refine blockA_ret ?_ | refine blockA_normal ?_ | refine thenA_ret ?_ | refine thenA_exit ?_ | refine thenA_normal ?_)
      refine walkL_region fun K hK => ?_
      simp (maxSteps := 4000000) only [go_sem, hs, List.getElem?_map, sightRows_at hs, Sight.row, hw]
      refine ⟨_, .lent (hf := hq s (List.mem_of_getElem? hs)) (hd := reify_caps _ _ _ _ rfl) (hr := rfl), ?_⟩
      simp (maxSteps := 4000000) only [go_sem]
      refine hK _ ?_
      clear hK K
      refine walkL_cond rfl (fun hc => ?_) (fun hc => ?_)
      · rw [hc, if_pos rfl] at hq0
        repeat (first | refine walkL_seq ?_ | refine walkL_skip ?_ | refine walkL_block ?_ | (refine walkL_region fun K hK => ?_; simp (maxSteps := 4000000) only [go_sem]; refine hK _ ?_; clear hK K) | refine walkL_nil ?_ | refine walkL_ret ?_ | refine walkL_exit ?_ | refine blockA_here ?_ | refine blockA_other rfl ?_ | refine blockA_ret ?_ | refine blockA_normal ?_ | refine thenA_ret ?_ | refine thenA_exit ?_ | refine thenA_normal ?_)
        simp (maxSteps := 4000000) only [go_sem, hq0]
      · rw [hc] at hq0
        repeat (first | refine walkL_seq ?_ | refine walkL_skip ?_ | refine walkL_block ?_ | (refine walkL_region fun K hK => ?_; simp (maxSteps := 4000000) only [go_sem, hw]; refine hK _ ?_; clear hK K) | refine walkL_nil ?_ | refine walkL_ret ?_ | refine walkL_exit ?_ | refine blockA_here ?_ | refine blockA_other rfl ?_ | refine blockA_ret ?_ | refine blockA_normal ?_ | refine thenA_ret ?_ | refine thenA_exit ?_ | refine thenA_normal ?_)
        refine ⟨rfl, i + 1, ?_, ⟨hlt, hq0⟩, by omega⟩
        refine weak_of [] ?_ ?_ rfl rfl <;> simp [lessT, lessM, lessB, AV.less]
    · have he : i = xs.length := by (have : ¬ i < xs.length := by simpa using hb); omega
      subst he
      repeat (first | refine walkL_seq ?_ | refine walkL_skip ?_ | refine walkL_block ?_ | (refine walkL_region fun K hK => ?_; simp (maxSteps := 4000000) only [go_sem]; refine hK _ ?_; clear hK K) | refine walkL_nil ?_ | refine walkL_ret ?_ | refine walkL_exit ?_ | refine blockA_here ?_ | refine blockA_other rfl ?_ | refine blockA_ret ?_ | refine blockA_normal ?_ | refine thenA_ret ?_ | refine thenA_exit ?_ | refine thenA_normal ?_)
      simp (maxSteps := 4000000) only [go_sem, hq0, List.drop_length, idxFrom]
theorem zf166 (xs : List Sight) (g : Nat) (caps : List DV) (q : Sight → Bool) (hq : ∀ s ∈ xs, Fn Tryz.prog g (.agg s.row :: caps) (.bool (q s))) (hl : xs.length < 2 ^ 62) : Fn Tryz.prog 166 [.sl (sightRows xs), .fn g caps] (.bool (xs.any q)) := by
  refine fn_walk 9 Tryz.call166 Tryz.func166 rfl (by decide) fun J => ?_
  simp (maxSteps := 4000000) only [go_sem, St.start, Tryz.ntmps166, Tryz.results166]
  repeat (first | refine walkL_seq ?_ | refine walkL_skip ?_ | refine walkL_block ?_ | (refine walkL_region fun K hK => ?_; simp (maxSteps := 4000000) only [go_sem]; (repeat (first | (refine ⟨_, .lent (hf := zf205 xs g caps q hq hl) (hd := rfl) (hr := rfl), ?_⟩; simp (maxSteps := 4000000) only [go_sem]) | (refine ⟨_, .given (hf := zf205 xs g caps q hq hl) (hd := rfl) (ha := rfl), ?_⟩; simp (maxSteps := 4000000) only [go_sem]))); refine hK _ ?_; clear hK K) | refine walkL_nil ?_ | refine walkL_ret ?_ | refine walkL_exit ?_ | refine blockA_here ?_ | refine blockA_other rfl ?_ | refine blockA_ret ?_ | refine blockA_normal ?_ | refine thenA_ret ?_ | refine thenA_exit ?_ | refine thenA_normal ?_)
  simp (maxSteps := 4000000) only [go_sem, idxFrom_nonneg]
theorem zf167 (s : Sight) (g : Nat) (caps : List DV) (b : Bool) (hq : Fn Tryz.prog g (.agg s.row :: caps) (.bool b)) : Fn Tryz.prog 167 [.agg s.row, .ptr [.fn g caps] 0] (.bool (!b)) := by
  refine fn_walk 8 Tryz.call167 Tryz.func167 rfl (by decide) fun J => ?_
  simp (maxSteps := 4000000) only [go_sem, St.start, Tryz.ntmps167, Tryz.results167, Sight.row]
  repeat (first | refine walkL_seq ?_ | refine walkL_skip ?_ | refine walkL_block ?_ | (refine walkL_region fun K hK => ?_; simp (maxSteps := 4000000) only [go_sem]; refine hK _ ?_; clear hK K) | refine walkL_nil ?_ | refine walkL_ret ?_ | refine walkL_exit ?_ | refine blockA_here ?_ | refine blockA_other rfl ?_ | refine blockA_ret ?_ | refine blockA_normal ?_ | refine thenA_ret ?_ | refine thenA_exit ?_ | refine thenA_normal ?_)
  refine walkL_region fun K hK => ?_
  simp (maxSteps := 4000000) only [go_sem]
  refine ⟨_, .lent (hf := hq) (hd := reify_caps _ _ _ _ rfl) (hr := rfl), ?_⟩
  simp (maxSteps := 4000000) only [go_sem]
  refine hK _ ?_
  clear hK K
  repeat (first | refine walkL_seq ?_ | refine walkL_skip ?_ | refine walkL_block ?_ | (refine walkL_region fun K hK => ?_; simp (maxSteps := 4000000) only [go_sem]; refine hK _ ?_; clear hK K) | refine walkL_nil ?_ | refine walkL_ret ?_ | refine walkL_exit ?_ | refine blockA_here ?_ | refine blockA_other rfl ?_ | refine blockA_ret ?_ | refine blockA_normal ?_ | refine thenA_ret ?_ | refine thenA_exit ?_ | refine thenA_normal ?_)
  simp (maxSteps := 4000000) only [go_sem]
theorem zf129 (xs : List Sight) (g : Nat) (caps : List DV) (q : Sight → Bool) (hq : ∀ s ∈ xs, Fn Tryz.prog g (.agg s.row :: caps) (.bool (q s))) (hl : xs.length < 2 ^ 62) : Fn Tryz.prog 129 [.sl (sightRows xs), .fn g caps] (.bool (xs.all q)) := by
  have h := zf166 xs 167 [.ptr [.fn g caps] 0] (fun s => !q s) (fun s hs => zf167 s g caps (q s) (hq s hs)) hl
  refine fn_walk 9 Tryz.call129 Tryz.func129 rfl (by decide) fun J => ?_
  simp (maxSteps := 4000000) only [go_sem, St.start, Tryz.ntmps129, Tryz.results129]
  repeat (first | refine walkL_seq ?_ | refine walkL_skip ?_ | refine walkL_block ?_ | (refine walkL_region fun K hK => ?_; simp (maxSteps := 4000000) only [go_sem]; (repeat (first | (refine ⟨_, .lent (hf := h) (hd := rfl) (hr := rfl), ?_⟩; simp (maxSteps := 4000000) only [go_sem]) | (refine ⟨_, .given (hf := h) (hd := rfl) (ha := rfl), ?_⟩; simp (maxSteps := 4000000) only [go_sem]))); refine hK _ ?_; clear hK K) | refine walkL_nil ?_ | refine walkL_ret ?_ | refine walkL_exit ?_ | refine blockA_here ?_ | refine blockA_other rfl ?_ | refine blockA_ret ?_ | refine blockA_normal ?_ | refine thenA_ret ?_ | refine thenA_exit ?_ | refine thenA_normal ?_)
  simp (maxSteps := 4000000) only [go_sem, any_not]
theorem zf219 (xs : List Hour) (g : Nat) (caps : List DV) (q : Hour → Bool) (hq : ∀ s ∈ xs, Fn Tryz.prog g (.agg s.row :: caps) (.bool (q s))) (hl : xs.length < 2 ^ 62) : Fn Tryz.prog 219 [.sl (hourRows xs), .fn g caps] (.i (idxFrom q xs 0)) := by
  refine fn_walk 19 Tryz.call219 Tryz.func219 rfl (by decide) fun J => ?_
  simp (maxSteps := 4000000) only [go_sem, St.start, Tryz.ntmps219, Tryz.results219]
  repeat (first | refine walkL_seq ?_ | refine walkL_skip ?_ | refine walkL_block ?_ | (refine walkL_region fun K hK => ?_; simp (maxSteps := 4000000) only [go_sem]; refine hK _ ?_; clear hK K) | refine walkL_nil ?_ | refine walkL_ret ?_ | refine walkL_exit ?_ | refine blockA_here ?_ | refine blockA_other rfl ?_ | refine blockA_ret ?_ | refine blockA_normal ?_ | refine thenA_ret ?_ | refine thenA_exit ?_ | refine thenA_normal ?_)
  refine walkL_loopS (fun (i : Nat) => [(8, .d (.i i))]) (fun _ => []) (fun i => i ≤ xs.length ∧ idxFrom q xs 0 = idxFrom q (xs.drop i) i) (fun i => xs.length - i) 0 ?_ ⟨Nat.zero_le _, rfl⟩ ?_
  · simp (maxSteps := 4000000) only [go_sem]
    refine weak_of [] ?_ ?_ rfl rfl <;> simp [lessT, lessM, lessB, AV.less]
  · intro i ⟨hi, hq0⟩
    simp (maxSteps := 4000000) only [go_sem]
    repeat (first | refine walkL_seq ?_ | refine walkL_skip ?_ | refine walkL_block ?_ | (refine walkL_region fun K hK => ?_; simp (maxSteps := 4000000) only [go_sem]; refine hK _ ?_; clear hK K) | refine walkL_nil ?_ | refine walkL_ret ?_ | refine walkL_exit ?_ | refine blockA_here ?_ | refine blockA_other rfl ?_ | refine blockA_ret ?_ | refine blockA_normal ?_ | refine thenA_ret ?_ | refine thenA_exit ?_ | refine thenA_normal ?_)
    refine walkL_cond rfl (fun hb => ?_) (fun hb => ?_)
    · have hlt : i < xs.length := by simpa using hb
      have hw : IntKind.i64.wrap ((i : Int) + 1) = ((i + 1 : Nat) : Int) := by rw [wr_small (by omega)]; simp
      obtain ⟨s, hs⟩ : ∃ s, xs[i]? = some s := ⟨_, List.getElem?_eq_getElem hlt⟩
      rw [drop_get hs, idxFrom] at hq0
      repeat (first | refine walkL_seq ?_ | refine walkL_skip ?_ | refine walkL_block ?_ | (refine walkL_region fun K hK => ?_; simp (maxSteps := 4000000) only [go_sem]; refine hK _ ?_; clear hK K) | refine walkL_nil ?_ | refine walkL_ret ?_ | refine walkL_exit ?_ | refine blockA_here ?_ | refine blockA_other rfl ?_ | refine blockA_ret ?_ | refine blockA_normal ?_ | refine thenA_ret ?_ | refine thenA_exit ?_ | refine thenA_normal ?_)
      refine walkL_region fun K hK => ?_
      simp (maxSteps := 4000000) only [go_sem, hs, List.getElem?_map, hourRows_at hs, Hour.row, hw]
      refine ⟨_, .lent (hf := hq s (List.mem_of_getElem? hs)) (hd := reify_caps _ _ _ _ rfl) (hr := rfl), ?_⟩
      simp (maxSteps := 4000000) only [go_sem]
      refine hK _ ?_
      clear hK K
      refine walkL_cond rfl (fun hc => ?_) (fun hc => ?_)
      · rw [hc, if_pos rfl] at hq0
        repeat (first | refine walkL_seq ?_ | refine walkL_skip ?_ | refine walkL_block ?_ | (refine walkL_region fun K hK => ?_; simp (maxSteps := 4000000) only [go_sem]; refine hK _ ?_; clear hK K) | refine walkL_nil ?_ | refine walkL_ret ?_ | refine walkL_exit ?_ | refine blockA_here ?_ | refine blockA_other rfl ?_ | refine blockA_ret ?_ | refine blockA_normal ?_ | refine thenA_ret ?_ | refine thenA_exit ?_ | refine thenA_normal ?_)
        simp (maxSteps := 4000000) only [go_sem, hq0]
      · rw [hc] at hq0
        repeat (first | refine walkL_seq ?_ | refine walkL_skip ?_ | refine walkL_block ?_ | (refine walkL_region fun K hK => ?_; simp (maxSteps := 4000000) only [go_sem, hw]; refine hK _ ?_; clear hK K) | refine walkL_nil ?_ | refine walkL_ret ?_ | refine walkL_exit ?_ | refine blockA_here ?_ | refine blockA_other rfl ?_ | refine blockA_ret ?_ | refine blockA_normal ?_ | refine thenA_ret ?_ | refine thenA_exit ?_ | refine thenA_normal ?_)
        refine ⟨rfl, i + 1, ?_, ⟨hlt, hq0⟩, by omega⟩
        refine weak_of [] ?_ ?_ rfl rfl <;> simp [lessT, lessM, lessB, AV.less]
    · have he : i = xs.length := by (have : ¬ i < xs.length := by simpa using hb); omega
      subst he
      repeat (first | refine walkL_seq ?_ | refine walkL_skip ?_ | refine walkL_block ?_ | (refine walkL_region fun K hK => ?_; simp (maxSteps := 4000000) only [go_sem]; refine hK _ ?_; clear hK K) | refine walkL_nil ?_ | refine walkL_ret ?_ | refine walkL_exit ?_ | refine blockA_here ?_ | refine blockA_other rfl ?_ | refine blockA_ret ?_ | refine blockA_normal ?_ | refine thenA_ret ?_ | refine thenA_exit ?_ | refine thenA_normal ?_)
      simp (maxSteps := 4000000) only [go_sem, hq0, List.drop_length, idxFrom]
theorem zf200 (xs : List Hour) (g : Nat) (caps : List DV) (q : Hour → Bool) (hq : ∀ s ∈ xs, Fn Tryz.prog g (.agg s.row :: caps) (.bool (q s))) (hl : xs.length < 2 ^ 62) : Fn Tryz.prog 200 [.sl (hourRows xs), .fn g caps] (.bool (xs.any q)) := by
  refine fn_walk 9 Tryz.call200 Tryz.func200 rfl (by decide) fun J => ?_
  simp (maxSteps := 4000000) only [go_sem, St.start, Tryz.ntmps200, Tryz.results200]
  repeat (first | refine walkL_seq ?_ | refine walkL_skip ?_ | refine walkL_block ?_ | (refine walkL_region fun K hK => ?_; simp (maxSteps := 4000000) only [go_sem]; (repeat (first | (refine ⟨_, .lent (hf := zf219 xs g caps q hq hl) (hd := rfl) (hr := rfl), ?_⟩; simp (maxSteps := 4000000) only [go_sem]) | (refine ⟨_, .given (hf := zf219 xs g caps q hq hl) (hd := rfl) (ha := rfl), ?_⟩; simp (maxSteps := 4000000) only [go_sem]))); refine hK _ ?_; clear hK K) | refine walkL_nil ?_ | refine walkL_ret ?_ | refine walkL_exit ?_ | refine blockA_here ?_ | refine blockA_other rfl ?_ | refine blockA_ret ?_ | refine blockA_normal ?_ | refine thenA_ret ?_ | refine thenA_exit ?_ | refine thenA_normal ?_)
  simp (maxSteps := 4000000) only [go_sem, idxFrom_nonneg]
theorem zf201 (s : Hour) (g : Nat) (caps : List DV) (b : Bool) (hq : Fn Tryz.prog g (.agg s.row :: caps) (.bool b)) : Fn Tryz.prog 201 [.agg s.row, .ptr [.fn g caps] 0] (.bool (!b)) := by
  refine fn_walk 8 Tryz.call201 Tryz.func201 rfl (by decide) fun J => ?_
  simp (maxSteps := 4000000) only [go_sem, St.start, Tryz.ntmps201, Tryz.results201, Hour.row]
  repeat (first | refine walkL_seq ?_ | refine walkL_skip ?_ | refine walkL_block ?_ | (refine walkL_region fun K hK => ?_; simp (maxSteps := 4000000) only [go_sem]; refine hK _ ?_; clear hK K) | refine walkL_nil ?_ | refine walkL_ret ?_ | refine walkL_exit ?_ | refine blockA_here ?_ | refine blockA_other rfl ?_ | refine blockA_ret ?_ | refine blockA_normal ?_ | refine thenA_ret ?_ | refine thenA_exit ?_ | refine thenA_normal ?_)
  refine walkL_region fun K hK => ?_
  simp (maxSteps := 4000000) only [go_sem]
  refine ⟨_, .lent (hf := hq) (hd := reify_caps _ _ _ _ rfl) (hr := rfl), ?_⟩
  simp (maxSteps := 4000000) only [go_sem]
  refine hK _ ?_
  clear hK K
  repeat (first | refine walkL_seq ?_ | refine walkL_skip ?_ | refine walkL_block ?_ | (refine walkL_region fun K hK => ?_; simp (maxSteps := 4000000) only [go_sem]; refine hK _ ?_; clear hK K) | refine walkL_nil ?_ | refine walkL_ret ?_ | refine walkL_exit ?_ | refine blockA_here ?_ | refine blockA_other rfl ?_ | refine blockA_ret ?_ | refine blockA_normal ?_ | refine thenA_ret ?_ | refine thenA_exit ?_ | refine thenA_normal ?_)
  simp (maxSteps := 4000000) only [go_sem]
theorem zf163 (xs : List Hour) (g : Nat) (caps : List DV) (q : Hour → Bool) (hq : ∀ s ∈ xs, Fn Tryz.prog g (.agg s.row :: caps) (.bool (q s))) (hl : xs.length < 2 ^ 62) : Fn Tryz.prog 163 [.sl (hourRows xs), .fn g caps] (.bool (xs.all q)) := by
  have h := zf200 xs 201 [.ptr [.fn g caps] 0] (fun s => !q s) (fun s hs => zf201 s g caps (q s) (hq s hs)) hl
  refine fn_walk 9 Tryz.call163 Tryz.func163 rfl (by decide) fun J => ?_
  simp (maxSteps := 4000000) only [go_sem, St.start, Tryz.ntmps163, Tryz.results163]
  repeat (first | refine walkL_seq ?_ | refine walkL_skip ?_ | refine walkL_block ?_ | (refine walkL_region fun K hK => ?_; simp (maxSteps := 4000000) only [go_sem]; (repeat (first | (refine ⟨_, .lent (hf := h) (hd := rfl) (hr := rfl), ?_⟩; simp (maxSteps := 4000000) only [go_sem]) | (refine ⟨_, .given (hf := h) (hd := rfl) (ha := rfl), ?_⟩; simp (maxSteps := 4000000) only [go_sem]))); refine hK _ ?_; clear hK K) | refine walkL_nil ?_ | refine walkL_ret ?_ | refine walkL_exit ?_ | refine blockA_here ?_ | refine blockA_other rfl ?_ | refine blockA_ret ?_ | refine blockA_normal ?_ | refine thenA_ret ?_ | refine thenA_exit ?_ | refine thenA_normal ?_)
  simp (maxSteps := 4000000) only [go_sem, any_not]
theorem zf220 (xs : List (List Hour)) (g : Nat) (caps : List DV) (q : (List Hour) → Bool) (hq : ∀ s ∈ xs, Fn Tryz.prog g (.agg [.sl (hourRows s)] :: caps) (.bool (q s))) (hl : xs.length < 2 ^ 62) : Fn Tryz.prog 220 [.sl (scenRows xs), .fn g caps] (.i (idxFrom q xs 0)) := by
  refine fn_walk 19 Tryz.call220 Tryz.func220 rfl (by decide) fun J => ?_
  simp (maxSteps := 4000000) only [go_sem, St.start, Tryz.ntmps220, Tryz.results220]
  repeat (first | refine walkL_seq ?_ | refine walkL_skip ?_ | refine walkL_block ?_ | (refine walkL_region fun K hK => ?_; simp (maxSteps := 4000000) only [go_sem]; refine hK _ ?_; clear hK K) | refine walkL_nil ?_ | refine walkL_ret ?_ | refine walkL_exit ?_ | refine blockA_here ?_ | refine blockA_other rfl ?_ | refine blockA_ret ?_ | refine blockA_normal ?_ | refine thenA_ret ?_ | refine thenA_exit ?_ | refine thenA_normal ?_)
  refine walkL_loopS (fun (i : Nat) => [(8, .d (.i i))]) (fun _ => []) (fun i => i ≤ xs.length ∧ idxFrom q xs 0 = idxFrom q (xs.drop i) i) (fun i => xs.length - i) 0 ?_ ⟨Nat.zero_le _, rfl⟩ ?_
  · simp (maxSteps := 4000000) only [go_sem]
    refine weak_of [] ?_ ?_ rfl rfl <;> simp [lessT, lessM, lessB, AV.less]
  · intro i ⟨hi, hq0⟩
    simp (maxSteps := 4000000) only [go_sem]
    repeat (first | refine walkL_seq ?_ | refine walkL_skip ?_ | refine walkL_block ?_ | (refine walkL_region fun K hK => ?_; simp (maxSteps := 4000000) only [go_sem]; refine hK _ ?_; clear hK K) | refine walkL_nil ?_ | refine walkL_ret ?_ | refine walkL_exit ?_ | refine blockA_here ?_ | refine blockA_other rfl ?_ | refine blockA_ret ?_ | refine blockA_normal ?_ | refine thenA_ret ?_ | refine thenA_exit ?_ | refine thenA_normal ?_)
    refine walkL_cond rfl (fun hb => ?_) (fun hb => ?_)
    · have hlt : i < xs.length := by simpa using hb
      have hw : IntKind.i64.wrap ((i : Int) + 1) = ((i + 1 : Nat) : Int) := by rw [wr_small (by omega)]; simp
      obtain ⟨s, hs⟩ : ∃ s, xs[i]? = some s := ⟨_, List.getElem?_eq_getElem hlt⟩
      rw [drop_get hs, idxFrom] at hq0
      repeat (first | refine walkL_seq ?_ | refine walkL_skip ?_ | refine walkL_block ?_ | (refine walkL_region fun K hK => ?_; simp (maxSteps := 4000000) only [go_sem]; refine hK _ ?_; clear hK K) | refine walkL_nil ?_ | refine walkL_ret ?_ | refine walkL_exit ?_ | refine blockA_here ?_ | refine blockA_other rfl ?_ | refine blockA_ret ?_ | refine blockA_normal ?_ | refine thenA_ret ?_ | refine thenA_exit ?_ | refine thenA_normal ?_)
      refine walkL_region fun K hK => ?_
      simp (maxSteps := 4000000) only [go_sem, hs, List.getElem?_map, scenRows_at hs, hw]
      refine ⟨_, .lent (hf := hq s (List.mem_of_getElem? hs)) (hd := reify_caps _ _ _ _ rfl) (hr := rfl), ?_⟩
      simp (maxSteps := 4000000) only [go_sem]
      refine hK _ ?_
      clear hK K
      refine walkL_cond rfl (fun hc => ?_) (fun hc => ?_)
      · rw [hc, if_pos rfl] at hq0
        repeat (first | refine walkL_seq ?_ | refine walkL_skip ?_ | refine walkL_block ?_ | (refine walkL_region fun K hK => ?_; simp (maxSteps := 4000000) only [go_sem]; refine hK _ ?_; clear hK K) | refine walkL_nil ?_ | refine walkL_ret ?_ | refine walkL_exit ?_ | refine blockA_here ?_ | refine blockA_other rfl ?_ | refine blockA_ret ?_ | refine blockA_normal ?_ | refine thenA_ret ?_ | refine thenA_exit ?_ | refine thenA_normal ?_)
        simp (maxSteps := 4000000) only [go_sem, hq0]
      · rw [hc] at hq0
        repeat (first | refine walkL_seq ?_ | refine walkL_skip ?_ | refine walkL_block ?_ | (refine walkL_region fun K hK => ?_; simp (maxSteps := 4000000) only [go_sem, hw]; refine hK _ ?_; clear hK K) | refine walkL_nil ?_ | refine walkL_ret ?_ | refine walkL_exit ?_ | refine blockA_here ?_ | refine blockA_other rfl ?_ | refine blockA_ret ?_ | refine blockA_normal ?_ | refine thenA_ret ?_ | refine thenA_exit ?_ | refine thenA_normal ?_)
        refine ⟨rfl, i + 1, ?_, ⟨hlt, hq0⟩, by omega⟩
        refine weak_of [] ?_ ?_ rfl rfl <;> simp [lessT, lessM, lessB, AV.less]
    · have he : i = xs.length := by (have : ¬ i < xs.length := by simpa using hb); omega
      subst he
      repeat (first | refine walkL_seq ?_ | refine walkL_skip ?_ | refine walkL_block ?_ | (refine walkL_region fun K hK => ?_; simp (maxSteps := 4000000) only [go_sem]; refine hK _ ?_; clear hK K) | refine walkL_nil ?_ | refine walkL_ret ?_ | refine walkL_exit ?_ | refine blockA_here ?_ | refine blockA_other rfl ?_ | refine blockA_ret ?_ | refine blockA_normal ?_ | refine thenA_ret ?_ | refine thenA_exit ?_ | refine thenA_normal ?_)
      simp (maxSteps := 4000000) only [go_sem, hq0, List.drop_length, idxFrom]
theorem zf203 (xs : List (List Hour)) (g : Nat) (caps : List DV) (q : (List Hour) → Bool) (hq : ∀ s ∈ xs, Fn Tryz.prog g (.agg [.sl (hourRows s)] :: caps) (.bool (q s))) (hl : xs.length < 2 ^ 62) : Fn Tryz.prog 203 [.sl (scenRows xs), .fn g caps] (.bool (xs.any q)) := by
  refine fn_walk 9 Tryz.call203 Tryz.func203 rfl (by decide) fun J => ?_
  simp (maxSteps := 4000000) only [go_sem, St.start, Tryz.ntmps203, Tryz.results203]
  repeat (first | refine walkL_seq ?_ | refine walkL_skip ?_ | refine walkL_block ?_ | (refine walkL_region fun K hK => ?_; simp (maxSteps := 4000000) only [go_sem]; (repeat (first | (refine ⟨_, .lent (hf := zf220 xs g caps q hq hl) (hd := rfl) (hr := rfl), ?_⟩; simp (maxSteps := 4000000) only [go_sem]) | (refine ⟨_, .given (hf := zf220 xs g caps q hq hl) (hd := rfl) (ha := rfl), ?_⟩; simp (maxSteps := 4000000) only [go_sem]))); refine hK _ ?_; clear hK K) | refine walkL_nil ?_ | refine walkL_ret ?_ | refine walkL_exit ?_ | refine blockA_here ?_ | refine blockA_other rfl ?_ | refine blockA_ret ?_ | refine blockA_normal ?_ | refine thenA_ret ?_ | refine thenA_exit ?_ | refine thenA_normal ?_)
  simp (maxSteps := 4000000) only [go_sem, idxFrom_nonneg]
theorem zf204 (s : (List Hour)) (g : Nat) (caps : List DV) (b : Bool) (hq : Fn Tryz.prog g (.agg [.sl (hourRows s)] :: caps) (.bool b)) : Fn Tryz.prog 204 [.agg [.sl (hourRows s)], .ptr [.fn g caps] 0] (.bool (!b)) := by
  refine fn_walk 8 Tryz.call204 Tryz.func204 rfl (by decide) fun J => ?_
  simp (maxSteps := 4000000) only [go_sem, St.start, Tryz.ntmps204, Tryz.results204]
  repeat (first | refine walkL_seq ?_ | refine walkL_skip ?_ | refine walkL_block ?_ | (refine walkL_region fun K hK => ?_; simp (maxSteps := 4000000) only [go_sem]; refine hK _ ?_; clear hK K) | refine walkL_nil ?_ | refine walkL_ret ?_ | refine walkL_exit ?_ | refine blockA_here ?_ | refine blockA_other rfl ?_ | refine blockA_ret ?_ | refine blockA_normal ?_ | refine thenA_ret ?_ | refine thenA_exit ?_ | refine thenA_normal ?_)
  refine walkL_region fun K hK => ?_
  simp (maxSteps := 4000000) only [go_sem]
  refine ⟨_, .lent (hf := hq) (hd := reify_caps _ _ _ _ rfl) (hr := rfl), ?_⟩
  simp (maxSteps := 4000000) only [go_sem]
  refine hK _ ?_
  clear hK K
  repeat (first | refine walkL_seq ?_ | refine walkL_skip ?_ | refine walkL_block ?_ | (refine walkL_region fun K hK => ?_; simp (maxSteps := 4000000) only [go_sem]; refine hK _ ?_; clear hK K) | refine walkL_nil ?_ | refine walkL_ret ?_ | refine walkL_exit ?_ | refine blockA_here ?_ | refine blockA_other rfl ?_ | refine blockA_ret ?_ | refine blockA_normal ?_ | refine thenA_ret ?_ | refine thenA_exit ?_ | refine thenA_normal ?_)
  simp (maxSteps := 4000000) only [go_sem]
theorem zf165 (xs : List (List Hour)) (g : Nat) (caps : List DV) (q : (List Hour) → Bool) (hq : ∀ s ∈ xs, Fn Tryz.prog g (.agg [.sl (hourRows s)] :: caps) (.bool (q s))) (hl : xs.length < 2 ^ 62) : Fn Tryz.prog 165 [.sl (scenRows xs), .fn g caps] (.bool (xs.all q)) := by
  have h := zf203 xs 204 [.ptr [.fn g caps] 0] (fun s => !q s) (fun s hs => zf204 s g caps (q s) (hq s hs)) hl
  refine fn_walk 9 Tryz.call165 Tryz.func165 rfl (by decide) fun J => ?_
  simp (maxSteps := 4000000) only [go_sem, St.start, Tryz.ntmps165, Tryz.results165]
  repeat (first | refine walkL_seq ?_ | refine walkL_skip ?_ | refine walkL_block ?_ | (refine walkL_region fun K hK => ?_; simp (maxSteps := 4000000) only [go_sem]; (repeat (first | (refine ⟨_, .lent (hf := h) (hd := rfl) (hr := rfl), ?_⟩; simp (maxSteps := 4000000) only [go_sem]) | (refine ⟨_, .given (hf := h) (hd := rfl) (ha := rfl), ?_⟩; simp (maxSteps := 4000000) only [go_sem]))); refine hK _ ?_; clear hK K) | refine walkL_nil ?_ | refine walkL_ret ?_ | refine walkL_exit ?_ | refine blockA_here ?_ | refine blockA_other rfl ?_ | refine blockA_ret ?_ | refine blockA_normal ?_ | refine thenA_ret ?_ | refine thenA_exit ?_ | refine thenA_normal ?_)
  simp (maxSteps := 4000000) only [go_sem, any_not]
end Go.Ab
namespace Go.Ab
open Go.RowKit Go.Proofs
set_option maxHeartbeats 4000000
set_option maxRecDepth 20000
attribute [local irreducible] WalkL Walk
structure ForeSmall (F : List (List Hour)) : Prop where
  scen : F.length < 2 ^ 30
  hours : ∀ l ∈ F, l.length < 2 ^ 30
def scenB (h0 x : List Hour) : Bool := withinB x.length 1 48 && (((x.length : Int) == (h0.length : Int)) && x.all hourB)
theorem zf162 (F : List (List Hour)) (h0 x : List Hour) (h : F[0]? = some h0) (hx : x.length < 2 ^ 30) : Fn Tryz.prog 162 [.agg [.sl (hourRows x)], .ptr [.sl (scenRows F)] 0] (.bool (scenB h0 x)) := by
  have g0 := scenRows_at h
  refine fn_walk 25 Tryz.call162 Tryz.func162 rfl (by decide) fun J => ?_
  simp (maxSteps := 4000000) only [go_sem, St.start, Tryz.ntmps162, Tryz.results162]
  repeat (first | refine walkL_seq ?_ | refine walkL_skip ?_ | refine walkL_block ?_ | (refine walkL_region fun K hK => ?_; simp (maxSteps := 4000000) only [go_sem]; refine hK _ ?_; clear hK K) | refine walkL_nil ?_ | refine walkL_ret ?_ | refine walkL_exit ?_ | refine blockA_here ?_ | refine blockA_other rfl ?_ | refine blockA_ret ?_ | refine blockA_normal ?_ | refine thenA_ret ?_ | refine thenA_exit ?_ | refine thenA_normal ?_)
  refine walkL_meetS [(3, .d (.bool (scenB h0 x)))] [] ?_ ?_
  · refine walkL_drawn (by kernel_rfl) (by kernel_rfl) fun K hK => ?_
    simp (maxSteps := 4000000) only [go_sem, g0]
    refine ⟨_, .fn (hf := zf145 x.length 1 48) (hd := rfl) (hr := .inl rfl), ?_⟩
    simp (maxSteps := 4000000) only [go_sem, g0]
    by_cases ho0 : (withinB x.length 1 48) = true
    · simp (maxSteps := 4000000) only [go_sem, g0, ho0]
      by_cases ho1 : ((x.length : Int) == (h0.length : Int)) = true
      · simp (maxSteps := 4000000) only [go_sem, g0, ho0, ho1]
        refine ⟨_, .fn (hf := zf163 x 164 [] hourB (fun s _ => zf164 s) (by omega)) (hd := rfl) (hr := .inl rfl), ?_⟩
        simp (maxSteps := 4000000) only [go_sem, g0, ho0, ho1]
        refine ⟨by kernel_rfl, hK _ ?_⟩
        clear hK K
        refine walkL_nil ?_
        refine thenA_normal ?_
        refine ⟨rfl, ?_⟩
        rw [show (scenB h0 x) = (x.all hourB) from by simp [scenB, ho0, ho1]]
        simp (maxSteps := 4000000) only [go_sem]
        refine weak_of [] ?_ ?_ rfl rfl <;> simp [lessT, lessM, lessB, AV.less]
      · simp (maxSteps := 4000000) only [go_sem, g0, ho0, ho1]
        refine ⟨by kernel_rfl, hK _ ?_⟩
        clear hK K
        refine walkL_nil ?_
        refine thenA_normal ?_
        refine ⟨rfl, ?_⟩
        rw [show (scenB h0 x) = (false) from by simp [scenB, ho0, ho1]]
        simp (maxSteps := 4000000) only [go_sem]
        refine weak_of [] ?_ ?_ rfl rfl <;> simp [lessT, lessM, lessB, AV.less]
    · simp (maxSteps := 4000000) only [go_sem, g0, ho0]
      refine ⟨by kernel_rfl, hK _ ?_⟩
      clear hK K
      refine walkL_nil ?_
      refine thenA_normal ?_
      refine ⟨rfl, ?_⟩
      rw [show (scenB h0 x) = (false) from by simp [scenB, ho0]]
      simp (maxSteps := 4000000) only [go_sem]
      refine weak_of [] ?_ ?_ rfl rfl <;> simp [lessT, lessM, lessB, AV.less]
  simp (maxSteps := 4000000) only [go_sem]
  repeat (first | refine walkL_seq ?_ | refine walkL_skip ?_ | refine walkL_block ?_ | (refine walkL_region fun K hK => ?_; simp (maxSteps := 4000000) only [go_sem]; refine hK _ ?_; clear hK K) | refine walkL_nil ?_ | refine walkL_ret ?_ | refine walkL_exit ?_ | refine blockA_here ?_ | refine blockA_other rfl ?_ | refine blockA_ret ?_ | refine blockA_normal ?_ | refine thenA_ret ?_ | refine thenA_exit ?_ | refine thenA_normal ?_)
  simp (maxSteps := 4000000) only [go_sem]
def hd0 (F : List (List Hour)) : List Hour := F.headD []
def badF (F : List (List Hour)) : Bool := !withinB F.length 1 6 || !(F.all (scenB (hd0 F)))
def foreF (F : List (List Hour)) : Int := if badF F then 50 else 0
theorem headD_get {F : List (List Hour)} (h : 0 < F.length) : F[0]? = some (hd0 F) := by
  cases F with
  | nil => simp at h
  | cons a l => rfl
theorem zf127 (F : List (List Hour)) (hs : ForeSmall F) : Fn Tryz.prog 127 [.agg [.sl (scenRows F)]] (.i (foreF F)) := by
  have h1 := hs.scen
  have h116 : withinB F.length 1 6 = true → Fn Tryz.prog 165 [.sl (scenRows F), .fn 162 [.ptr [.sl (scenRows F)] 0]] (.bool (F.all (scenB (hd0 F)))) := fun h =>
    zf165 F 162 [.ptr [.sl (scenRows F)] 0] (scenB (hd0 F)) (fun s hm => zf162 F (hd0 F) s (headD_get (by have := within_iff.1 h; omega)) (hs.hours s hm)) (by omega)
  refine fn_walk 17 Tryz.call127 Tryz.func127 rfl (by decide) fun J => ?_
  simp (maxSteps := 4000000) only [go_sem, St.start, Tryz.ntmps127, Tryz.results127]
  repeat (first | refine walkL_seq ?_ | refine walkL_skip ?_ | refine walkL_block ?_ | (refine walkL_region fun K hK => ?_; simp (maxSteps := 4000000) only [go_sem]; refine hK _ ?_; clear hK K) | refine walkL_nil ?_ | refine walkL_ret ?_ | refine walkL_exit ?_ | refine blockA_here ?_ | refine blockA_other rfl ?_ | refine blockA_ret ?_ | refine blockA_normal ?_ | refine thenA_ret ?_ | refine thenA_exit ?_ | refine thenA_normal ?_)
  refine walkL_meetS [(16, .d (.bool (badF F)))] [] ?_ ?_
  · refine walkL_region fun K hK => ?_
    simp (maxSteps := 4000000) only [go_sem]
    refine ⟨_, .lent (hf := zf145 F.length 1 6) (hd := rfl) (hr := rfl), ?_⟩
    simp (maxSteps := 4000000) only [go_sem]
    by_cases ho0 : (!withinB F.length 1 6) = true
    · simp (maxSteps := 4000000) only [go_sem, ho0]
      refine hK _ ?_
      clear hK K
      refine walkL_nil ?_
      refine thenA_normal ?_
      refine ⟨rfl, ?_⟩
      rw [show (badF F) = (true) from by simp [badF, ho0]]
      simp (maxSteps := 4000000) only [go_sem]
      refine weak_of [] ?_ ?_ rfl rfl <;> simp [lessT, lessM, lessB, AV.less]
    · simp (maxSteps := 4000000) only [go_sem, ho0]
      refine ⟨_, .lent (hf := h116 (by simpa using ho0)) (hd := rfl) (hr := rfl), ?_⟩
      simp (maxSteps := 4000000) only [go_sem, ho0]
      refine hK _ ?_
      clear hK K
      refine walkL_nil ?_
      refine thenA_normal ?_
      refine ⟨rfl, ?_⟩
      rw [show (badF F) = (!(F.all (scenB (hd0 F)))) from by simp [badF, ho0]]
      simp (maxSteps := 4000000) only [go_sem]
      refine weak_of [] ?_ ?_ rfl rfl <;> simp [lessT, lessM, lessB, AV.less]
  · simp (maxSteps := 4000000) only [go_sem]
    repeat (first | refine walkL_seq ?_ | refine walkL_skip ?_ | refine walkL_block ?_ | (refine walkL_region fun K hK => ?_; simp (maxSteps := 4000000) only [go_sem]; refine hK _ ?_; clear hK K) | refine walkL_nil ?_ | refine walkL_ret ?_ | refine walkL_exit ?_ | refine blockA_here ?_ | refine blockA_other rfl ?_ | refine blockA_ret ?_ | refine blockA_normal ?_ | refine thenA_ret ?_ | refine thenA_exit ?_ | refine thenA_normal ?_)
    refine walkL_cond rfl (fun hc => ?_) (fun hc => ?_)
    · repeat (first | refine walkL_seq ?_ | refine walkL_skip ?_ | refine walkL_block ?_ | (refine walkL_region fun K hK => ?_; simp (maxSteps := 4000000) only [go_sem]; refine hK _ ?_; clear hK K) | refine walkL_nil ?_ | refine walkL_ret ?_ | refine walkL_exit ?_ | refine blockA_here ?_ | refine blockA_other rfl ?_ | refine blockA_ret ?_ | refine blockA_normal ?_ | refine thenA_ret ?_ | refine thenA_exit ?_ | refine thenA_normal ?_)
      simp (maxSteps := 4000000) only [go_sem, foreF, hc]
    · repeat (first | refine walkL_seq ?_ | refine walkL_skip ?_ | refine walkL_block ?_ | (refine walkL_region fun K hK => ?_; simp (maxSteps := 4000000) only [go_sem]; refine hK _ ?_; clear hK K) | refine walkL_nil ?_ | refine walkL_ret ?_ | refine walkL_exit ?_ | refine blockA_here ?_ | refine blockA_other rfl ?_ | refine blockA_ret ?_ | refine blockA_normal ?_ | refine thenA_ret ?_ | refine thenA_exit ?_ | refine thenA_normal ?_)
      simp (maxSteps := 4000000) only [go_sem, foreF, hc]
def sightOk (H : Int) (s : Sight) : Bool := withinB s.hour 0 (H - 1) && hourB (pointH s.sky)
def sightsB (H : Int) (l : List Sight) : Bool := l.all (sightOk H) && (decide ((l.map (·.hour)).Nodup) && decide ((l.length : Int) ≤ 20))
def entsFrom : List Sight → Nat → List (MK × DV × Nat)
  | [], _ => []
  | s :: l, j => (.i s.hour, .i 1, j) :: entsFrom l (j + 1)
theorem ents_none {k : Int} : ∀ (l : List Sight) (j i : Nat), k ∉ l.map (·.hour) → findE (entsFrom l j) (.i k) i = none
  | [], _, _, _ => rfl
  | s :: l, j, i, h => by
    simp only [List.map_cons, List.mem_cons, not_or] at h
    rw [entsFrom, findE, if_neg (fun e => h.1 (MK.i.inj e))]
    exact ents_none l (j + 1) (i + 1) h.2
theorem ents_some {k : Int} : ∀ (l : List Sight) (j i : Nat), k ∈ l.map (·.hour) → ∃ q b, findE (entsFrom l j) (.i k) i = some (i + q, .i 1, b)
  | [], _, _, h => by simp at h
  | s :: l, j, i, h => by
    rw [entsFrom, findE]
    by_cases hk : k = s.hour
    · exact ⟨0, j, by rw [if_pos (by rw [hk])]; rfl⟩
    · rw [if_neg (fun e => hk (MK.i.inj e))]
      obtain ⟨q, b, hq⟩ := ents_some l (j + 1) (i + 1) (by simpa [hk] using h)
      exact ⟨q + 1, b, by rw [hq]; congr 2; omega⟩
theorem findE_set {k : MK} {d v : DV} {b : Nat} : ∀ (es : List (MK × DV × Nat)) (i q : Nat), findE es k i = some (i + q, v, b) → findE (es.set q (k, d, b)) k i = some (i + q, d, b)
  | [], _, _, h => by cases h
  | e :: es, i, q, h => by
    rw [findE] at h
    by_cases hk : k = e.1
    · rw [if_pos hk] at h
      have : q = 0 := by
        have := congrArg (fun o => o.map (·.1)) h
        simp at this
        omega
      subst this
      rw [List.set_cons_zero, findE, if_pos rfl]
      rfl
    · rw [if_neg hk] at h
      cases q with
      | zero =>
        exfalso
        have : ∀ (es : List (MK × DV × Nat)) (i p : Nat) (r : DV × Nat), findE es k i = some (p, r) → i ≤ p := by
          intro es
          induction es with
          | nil => intro i p r h; cases h
          | cons e es ih =>
            intro i p r h
            rw [findE] at h
            split at h
            · cases h; exact Nat.le_refl _
            · have := ih (i + 1) p r h; omega
        have := this es (i + 1) (i + 0) _ h
        omega
      | succ q =>
        rw [List.set_cons_succ, findE, if_neg hk, show i + (q + 1) = (i + 1) + q by omega]
        exact findE_set es (i + 1) q (by rw [h]; congr 2; omega)
theorem findE_push {k : MK} {d : DV} {b : Nat} : ∀ (es : List (MK × DV × Nat)) (i : Nat), findE es k i = none → findE (es ++ [(k, d, b)]) k i = some (i + es.length, d, b)
  | [], i, _ => by simp [findE]
  | e :: es, i, h => by
    rw [findE] at h
    split at h
    · cases h
    · rename_i hk
      rw [List.cons_append, findE, if_neg hk, findE_push es (i + 1) h]
      congr 2
      simp; omega
theorem ents_push (s : Sight) : ∀ (l : List Sight) (j : Nat), entsFrom (l ++ [s]) j = entsFrom l j ++ [(.i s.hour, .i 1, j + l.length)]
  | [], j => by simp [entsFrom]
  | x :: l, j => by simp [entsFrom, ents_push s l]; omega
theorem zf128 (F : List (List Hour)) (h0 : List Hour) (seen : List Sight) (h : F[0]? = some h0) (hl : h0.length < 2 ^ 30) (hsl : seen.length < 2 ^ 30) :
    Fn Tryz.prog 128 [.agg [.sl (scenRows F)], .sl (sightRows seen)] (.bool (sightsB h0.length seen)) := by
  have g0 := scenRows_at h
  have hw0 : IntKind.i64.wrap ((h0.length : Int) - 1) = (h0.length : Int) - 1 := wr_small (by omega)
  have w1 : IntKind.i64.wrap (0 + 1) = 1 := by decide
  have w2 : IntKind.i64.wrap (1 + 1) = 2 := by decide
  have d21 : decide ((2 : Int) > 1) = true := rfl
  have d11 : decide ((1 : Int) > 1) = false := rfl
  refine fn_walk 49 Tryz.call128 Tryz.func128 rfl (by decide) fun J => ?_
  simp (maxSteps := 4000000) only [go_sem, St.start, Tryz.ntmps128, Tryz.results128]
  repeat (first | refine walkL_seq ?_ | refine walkL_skip ?_ | refine walkL_block ?_ | (refine walkL_region fun K hK => ?_; simp (maxSteps := 4000000) only [go_sem]; refine hK _ ?_; clear hK K) | refine walkL_nil ?_ | refine walkL_ret ?_ | refine walkL_exit ?_ | refine blockA_here ?_ | refine blockA_other rfl ?_ | refine blockA_ret ?_ | refine blockA_normal ?_ | refine thenA_ret ?_ | refine thenA_exit ?_ | refine thenA_normal ?_)
  refine walkL_loopS (fun (i : Nat) => [(11, .d (.i i))]) (fun i => [(8, some (.mp none (entsFrom (seen.take i) 0) i))]) (fun i => i ≤ seen.length ∧ (seen.take i).all (sightOk h0.length) = true ∧ ((seen.take i).map (·.hour)).Nodup) (fun i => seen.length - i) 0 ?_ ⟨Nat.zero_le _, rfl, by simp⟩ ?_
  · simp (maxSteps := 4000000) only [go_sem]
    refine weak_of [] ?_ ?_ rfl rfl <;> simp [lessT, lessM, lessB, AV.less]
    first | done | rfl
  · intro i ⟨hi, hall, hnd⟩
    simp (maxSteps := 4000000) only [go_sem]
    repeat (first | refine walkL_seq ?_ | refine walkL_skip ?_ | refine walkL_block ?_ | (refine walkL_region fun K hK => ?_; simp (maxSteps := 4000000) only [go_sem]; refine hK _ ?_; clear hK K) | refine walkL_nil ?_ | refine walkL_ret ?_ | refine walkL_exit ?_ | refine blockA_here ?_ | refine blockA_other rfl ?_ | refine blockA_ret ?_ | refine blockA_normal ?_ | refine thenA_ret ?_ | refine thenA_exit ?_ | refine thenA_normal ?_)
    refine walkL_cond rfl (fun hb => ?_) (fun hb => ?_)
    · have hlt : i < seen.length := by simpa using hb
      have hw : IntKind.i64.wrap ((i : Int) + 1) = ((i + 1 : Nat) : Int) := by rw [wr_small (by omega)]; simp
      obtain ⟨s, hs⟩ : ∃ s, seen[i]? = some s := ⟨_, List.getElem?_eq_getElem hlt⟩
      have g1 := sightRows_at hs
      have h113 := zf145 s.hour 0 ((h0.length : Int) - 1)
      have h111 := zf132 s.sky
      have h115 := zf164 (pointH s.sky)
      rw [Sky.row] at h111
      have htk : seen.take (i + 1) = seen.take i ++ [s] := by rw [List.take_add_one, hs]; rfl
      obtain ⟨b1, e1⟩ : ∃ b, b = withinB s.hour 0 ((h0.length : Int) - 1) := ⟨_, rfl⟩
      obtain ⟨b3, e3⟩ : ∃ b, b = hourB (pointH s.sky) := ⟨_, rfl⟩
      have hok : sightOk h0.length s = (b1 && b3) := by rw [sightOk, e1, e3]
      rw [← e1] at h113
      rw [← e3] at h115
      have hbad : sightOk h0.length s = false → sightsB h0.length seen = false := fun hf => by rw [sightsB, all_of_get hs hf]; rfl
      by_cases hk : s.hour ∈ (seen.take i).map (·.hour)
      · obtain ⟨q, b, hq⟩ := ents_some (seen.take i) 0 0 hk
        have hq2 := findE_set (d := .i 2) _ 0 q hq
        rw [Nat.zero_add] at hq hq2
        have hF : sightsB h0.length seen = false := by
          have : ¬ (seen.map (·.hour)).Nodup := fun hn => by
            have h3 : (((seen.take (i + 1)).map (·.hour))).Nodup := (List.Sublist.map _ (List.take_sublist _ _)).nodup hn
            rw [htk, List.map_append, List.nodup_append] at h3
            exact h3.2.2 _ hk _ (by simp) rfl
          simp [sightsB, this]
        repeat (first | refine walkL_seq ?_ | refine walkL_skip ?_ | refine walkL_block ?_ | (refine walkL_region fun K hK => ?_; simp (maxSteps := 4000000) only [go_sem, g1, Sight.row, hq, w2]; refine hK _ ?_; clear hK K) | refine walkL_nil ?_ | refine walkL_ret ?_ | refine walkL_exit ?_ | refine blockA_here ?_ | refine blockA_other rfl ?_ | refine blockA_ret ?_ | refine blockA_normal ?_ | refine thenA_ret ?_ | refine thenA_exit ?_ | refine thenA_normal ?_)
        cases b1
        all_goals
          repeat (first | refine walkL_seq ?_ | refine walkL_skip ?_ | refine walkL_block ?_ | (refine walkL_region fun K hK => ?_; simp (maxSteps := 4000000) only [go_sem, g1, g0, Sight.row, hq2, hw0, d21, d11]; (repeat (first | (refine ⟨_, .lent (hf := h113) (hd := rfl) (hr := rfl), ?_⟩; simp (maxSteps := 4000000) only [go_sem, g1, g0, Sight.row, hq2, hw0, d21, d11]) | (refine ⟨_, .given (hf := h113) (hd := rfl) (ha := rfl), ?_⟩; simp (maxSteps := 4000000) only [go_sem, g1, g0, Sight.row, hq2, hw0, d21, d11]))); refine hK _ ?_; clear hK K) | (refine walkL_drawn (by kernel_rfl) (by kernel_rfl) fun K hK => ?_; simp (maxSteps := 4000000) only [go_sem, g1, g0, Sight.row, hq2, hw0, d21, d11]; (repeat (first | (refine ⟨_, .fn (hf := h113) (hd := rfl) (hr := .inl rfl), ?_⟩; simp (maxSteps := 4000000) only [go_sem, g1, g0, Sight.row, hq2, hw0, d21, d11]))); refine ⟨by kernel_rfl, hK _ ?_⟩; clear hK K) | refine walkL_nil ?_ | refine walkL_ret ?_ | refine walkL_exit ?_ | refine blockA_here ?_ | refine blockA_other rfl ?_ | refine blockA_ret ?_ | refine blockA_normal ?_ | refine thenA_ret ?_ | refine thenA_exit ?_ | refine thenA_normal ?_)
          refine walkL_true rfl ?_
          repeat (first | refine walkL_seq ?_ | refine walkL_skip ?_ | refine walkL_block ?_ | (refine walkL_region fun K hK => ?_; simp (maxSteps := 4000000) only [go_sem]; refine hK _ ?_; clear hK K) | refine walkL_nil ?_ | refine walkL_ret ?_ | refine walkL_exit ?_ | refine blockA_here ?_ | refine blockA_other rfl ?_ | refine blockA_ret ?_ | refine blockA_normal ?_ | refine thenA_ret ?_ | refine thenA_exit ?_ | refine thenA_normal ?_)
          simp (maxSteps := 4000000) only [go_sem, hF]
      · have hq := ents_none (seen.take i) 0 0 hk
        have hq2 := findE_push (d := .i 1) (b := i) _ 0 hq
        rw [Nat.zero_add] at hq2
        have hp := ents_push s (seen.take i) 0
        have htl : (seen.take i).length = i := by simp; omega
        rw [← htk, htl, Nat.zero_add] at hp
        repeat (first | refine walkL_seq ?_ | refine walkL_skip ?_ | refine walkL_block ?_ | (refine walkL_region fun K hK => ?_; simp (maxSteps := 4000000) only [go_sem, g1, Sight.row, hq, w1]; refine hK _ ?_; clear hK K) | refine walkL_nil ?_ | refine walkL_ret ?_ | refine walkL_exit ?_ | refine blockA_here ?_ | refine blockA_other rfl ?_ | refine blockA_ret ?_ | refine blockA_normal ?_ | refine thenA_ret ?_ | refine thenA_exit ?_ | refine thenA_normal ?_)
        cases b1
        · repeat (first | refine walkL_seq ?_ | refine walkL_skip ?_ | refine walkL_block ?_ | (refine walkL_region fun K hK => ?_; simp (maxSteps := 4000000) only [go_sem, g1, g0, Sight.row, hq2, hw0, d21, d11]; (repeat (first | (refine ⟨_, .lent (hf := h113) (hd := rfl) (hr := rfl), ?_⟩; simp (maxSteps := 4000000) only [go_sem, g1, g0, Sight.row, hq2, hw0, d21, d11]) | (refine ⟨_, .given (hf := h113) (hd := rfl) (ha := rfl), ?_⟩; simp (maxSteps := 4000000) only [go_sem, g1, g0, Sight.row, hq2, hw0, d21, d11]))); refine hK _ ?_; clear hK K) | (refine walkL_drawn (by kernel_rfl) (by kernel_rfl) fun K hK => ?_; simp (maxSteps := 4000000) only [go_sem, g1, g0, Sight.row, hq2, hw0, d21, d11]; (repeat (first | (refine ⟨_, .fn (hf := h113) (hd := rfl) (hr := .inl rfl), ?_⟩; simp (maxSteps := 4000000) only [go_sem, g1, g0, Sight.row, hq2, hw0, d21, d11]))); refine ⟨by kernel_rfl, hK _ ?_⟩; clear hK K) | refine walkL_nil ?_ | refine walkL_ret ?_ | refine walkL_exit ?_ | refine blockA_here ?_ | refine blockA_other rfl ?_ | refine blockA_ret ?_ | refine blockA_normal ?_ | refine thenA_ret ?_ | refine thenA_exit ?_ | refine thenA_normal ?_)
          refine walkL_true rfl ?_
          repeat (first | refine walkL_seq ?_ | refine walkL_skip ?_ | refine walkL_block ?_ | (refine walkL_region fun K hK => ?_; simp (maxSteps := 4000000) only [go_sem]; refine hK _ ?_; clear hK K) | refine walkL_nil ?_ | refine walkL_ret ?_ | refine walkL_exit ?_ | refine blockA_here ?_ | refine blockA_other rfl ?_ | refine blockA_ret ?_ | refine blockA_normal ?_ | refine thenA_ret ?_ | refine thenA_exit ?_ | refine thenA_normal ?_)
          simp (maxSteps := 4000000) only [go_sem, hbad (by rw [hok]; rfl)]
        · cases b3
          · repeat (first | refine walkL_seq ?_ | refine walkL_skip ?_ | refine walkL_block ?_ | (refine walkL_region fun K hK => ?_; simp (maxSteps := 4000000) only [go_sem, g1, g0, Sight.row, hq2, hw0, d21, d11, pointH]; (repeat (first | (refine ⟨_, .lent (hf := h113) (hd := rfl) (hr := rfl), ?_⟩; simp (maxSteps := 4000000) only [go_sem, g1, g0, Sight.row, hq2, hw0, d21, d11, pointH]) | (refine ⟨_, .lent (hf := h111) (hd := rfl) (hr := rfl), ?_⟩; simp (maxSteps := 4000000) only [go_sem, g1, g0, Sight.row, hq2, hw0, d21, d11, pointH]) | (refine ⟨_, .lent (hf := h115) (hd := rfl) (hr := rfl), ?_⟩; simp (maxSteps := 4000000) only [go_sem, g1, g0, Sight.row, hq2, hw0, d21, d11, pointH]) | (refine ⟨_, .given (hf := h113) (hd := rfl) (ha := rfl), ?_⟩; simp (maxSteps := 4000000) only [go_sem, g1, g0, Sight.row, hq2, hw0, d21, d11, pointH]) | (refine ⟨_, .given (hf := h111) (hd := rfl) (ha := rfl), ?_⟩; simp (maxSteps := 4000000) only [go_sem, g1, g0, Sight.row, hq2, hw0, d21, d11, pointH]) | (refine ⟨_, .given (hf := h115) (hd := rfl) (ha := rfl), ?_⟩; simp (maxSteps := 4000000) only [go_sem, g1, g0, Sight.row, hq2, hw0, d21, d11, pointH]))); refine hK _ ?_; clear hK K) | (refine walkL_drawn (by kernel_rfl) (by kernel_rfl) fun K hK => ?_; simp (maxSteps := 4000000) only [go_sem, g1, g0, Sight.row, hq2, hw0, d21, d11, pointH]; (repeat (first | (refine ⟨_, .fn (hf := h113) (hd := rfl) (hr := .inl rfl), ?_⟩; simp (maxSteps := 4000000) only [go_sem, g1, g0, Sight.row, hq2, hw0, d21, d11, pointH]) | (refine ⟨_, .fn (hf := h111) (hd := rfl) (hr := .inl rfl), ?_⟩; simp (maxSteps := 4000000) only [go_sem, g1, g0, Sight.row, hq2, hw0, d21, d11, pointH]) | (refine ⟨_, .fn (hf := h115) (hd := rfl) (hr := .inl rfl), ?_⟩; simp (maxSteps := 4000000) only [go_sem, g1, g0, Sight.row, hq2, hw0, d21, d11, pointH]))); refine ⟨by kernel_rfl, hK _ ?_⟩; clear hK K) | refine walkL_nil ?_ | refine walkL_ret ?_ | refine walkL_exit ?_ | refine blockA_here ?_ | refine blockA_other rfl ?_ | refine blockA_ret ?_ | refine blockA_normal ?_ | refine thenA_ret ?_ | refine thenA_exit ?_ | refine thenA_normal ?_)
            refine walkL_true rfl ?_
            repeat (first | refine walkL_seq ?_ | refine walkL_skip ?_ | refine walkL_block ?_ | (refine walkL_region fun K hK => ?_; simp (maxSteps := 4000000) only [go_sem]; refine hK _ ?_; clear hK K) | refine walkL_nil ?_ | refine walkL_ret ?_ | refine walkL_exit ?_ | refine blockA_here ?_ | refine blockA_other rfl ?_ | refine blockA_ret ?_ | refine blockA_normal ?_ | refine thenA_ret ?_ | refine thenA_exit ?_ | refine thenA_normal ?_)
            simp (maxSteps := 4000000) only [go_sem, hbad (by rw [hok]; rfl)]
          · repeat (first | refine walkL_seq ?_ | refine walkL_skip ?_ | refine walkL_block ?_ | (refine walkL_region fun K hK => ?_; simp (maxSteps := 4000000) only [go_sem, g1, g0, Sight.row, hq2, hw0, d21, d11, pointH]; (repeat (first | (refine ⟨_, .lent (hf := h113) (hd := rfl) (hr := rfl), ?_⟩; simp (maxSteps := 4000000) only [go_sem, g1, g0, Sight.row, hq2, hw0, d21, d11, pointH]) | (refine ⟨_, .lent (hf := h111) (hd := rfl) (hr := rfl), ?_⟩; simp (maxSteps := 4000000) only [go_sem, g1, g0, Sight.row, hq2, hw0, d21, d11, pointH]) | (refine ⟨_, .lent (hf := h115) (hd := rfl) (hr := rfl), ?_⟩; simp (maxSteps := 4000000) only [go_sem, g1, g0, Sight.row, hq2, hw0, d21, d11, pointH]) | (refine ⟨_, .given (hf := h113) (hd := rfl) (ha := rfl), ?_⟩; simp (maxSteps := 4000000) only [go_sem, g1, g0, Sight.row, hq2, hw0, d21, d11, pointH]) | (refine ⟨_, .given (hf := h111) (hd := rfl) (ha := rfl), ?_⟩; simp (maxSteps := 4000000) only [go_sem, g1, g0, Sight.row, hq2, hw0, d21, d11, pointH]) | (refine ⟨_, .given (hf := h115) (hd := rfl) (ha := rfl), ?_⟩; simp (maxSteps := 4000000) only [go_sem, g1, g0, Sight.row, hq2, hw0, d21, d11, pointH]))); refine hK _ ?_; clear hK K) | (refine walkL_drawn (by kernel_rfl) (by kernel_rfl) fun K hK => ?_; simp (maxSteps := 4000000) only [go_sem, g1, g0, Sight.row, hq2, hw0, d21, d11, pointH]; (repeat (first | (refine ⟨_, .fn (hf := h113) (hd := rfl) (hr := .inl rfl), ?_⟩; simp (maxSteps := 4000000) only [go_sem, g1, g0, Sight.row, hq2, hw0, d21, d11, pointH]) | (refine ⟨_, .fn (hf := h111) (hd := rfl) (hr := .inl rfl), ?_⟩; simp (maxSteps := 4000000) only [go_sem, g1, g0, Sight.row, hq2, hw0, d21, d11, pointH]) | (refine ⟨_, .fn (hf := h115) (hd := rfl) (hr := .inl rfl), ?_⟩; simp (maxSteps := 4000000) only [go_sem, g1, g0, Sight.row, hq2, hw0, d21, d11, pointH]))); refine ⟨by kernel_rfl, hK _ ?_⟩; clear hK K) | refine walkL_nil ?_ | refine walkL_ret ?_ | refine walkL_exit ?_ | refine blockA_here ?_ | refine blockA_other rfl ?_ | refine blockA_ret ?_ | refine blockA_normal ?_ | refine thenA_ret ?_ | refine thenA_exit ?_ | refine thenA_normal ?_)
            refine walkL_false rfl ?_
            repeat (first | refine walkL_seq ?_ | refine walkL_skip ?_ | refine walkL_block ?_ | (refine walkL_region fun K hK => ?_; simp (maxSteps := 4000000) only [go_sem, hw]; refine hK _ ?_; clear hK K) | refine walkL_nil ?_ | refine walkL_ret ?_ | refine walkL_exit ?_ | refine blockA_here ?_ | refine blockA_other rfl ?_ | refine blockA_ret ?_ | refine blockA_normal ?_ | refine thenA_ret ?_ | refine thenA_exit ?_ | refine thenA_normal ?_)
            refine ⟨rfl, i + 1, ?_, ⟨hlt, all_take_succ hs hall (by rw [hok]; rfl), ?_⟩, by omega⟩
            · rw [hp]
              refine weak_of [] ?_ ?_ rfl rfl <;> simp [lessT, lessM, lessB, AV.less]
            · rw [htk, List.map_append, List.nodup_append]
              exact ⟨hnd, by simp, fun a ha b hb e => hk (by
                have : b = s.hour := by simpa using hb
                rw [← this, ← e]; exact ha)⟩
    · have he : i = seen.length := by (have : ¬ i < seen.length := by simpa using hb); omega
      subst he
      rw [List.take_length] at hall hnd
      repeat (first | refine walkL_seq ?_ | refine walkL_skip ?_ | refine walkL_block ?_ | (refine walkL_region fun K hK => ?_; simp (maxSteps := 4000000) only [go_sem]; refine hK _ ?_; clear hK K) | refine walkL_nil ?_ | refine walkL_ret ?_ | refine walkL_exit ?_ | refine blockA_here ?_ | refine blockA_other rfl ?_ | refine blockA_ret ?_ | refine blockA_normal ?_ | refine thenA_ret ?_ | refine thenA_exit ?_ | refine thenA_normal ?_)
      simp (maxSteps := 4000000) only [go_sem, sightsB, hall, hnd]
end Go.Ab
namespace Go.Ab
open Go.RowKit Go.Proofs
set_option maxHeartbeats 4000000
set_option maxRecDepth 20000
attribute [local irreducible] WalkL Walk
theorem isEmpty_rows {α β : Type} {f : α → β} {l : List α} (h : l ≠ []) : (l.map f).isEmpty = false := by cases l <;> simp at h ⊢
theorem zf120 (l : List Hour) (h : l ≠ []) (hl : l.length < 2 ^ 30) : FnS Tryz.prog 120 [.sl (hourRows l)] 191 6 (hourRows l) := by
  have hne : (hourRows l).isEmpty = false := isEmpty_rows h
  have h1 : l.length ≤ 549755813888 := by omega
  have h2 : 0 + l.length ≤ 549755813888 := by omega
  refine fnS_walk 8 Tryz.call120 Tryz.func120 rfl (by decide) fun J => ?_
  simp (maxSteps := 4000000) only [go_sem, St.start, Tryz.ntmps120, Tryz.results120]
  repeat (first | refine walkL_seq ?_ | refine walkL_skip ?_ | refine walkL_block ?_ | (refine walkL_region fun K hK => ?_; simp (maxSteps := 4000000) only [go_sem, hne]; refine hK _ ?_; clear hK K) | refine walkL_nil ?_ | refine walkL_ret ?_ | refine walkL_exit ?_ | refine blockA_here ?_ | refine blockA_other rfl ?_ | refine blockA_ret ?_ | refine blockA_normal ?_ | refine thenA_ret ?_ | refine thenA_exit ?_ | refine thenA_normal ?_)
  refine walkL_false rfl ?_
  repeat (first | refine walkL_seq ?_ | refine walkL_skip ?_ | refine walkL_block ?_ | (refine walkL_region fun K hK => ?_; simp (maxSteps := 4000000) only [go_sem, h1, h2, List.nil_append, List.length_nil]; refine hK _ ?_; clear hK K) | refine walkL_nil ?_ | refine walkL_ret ?_ | refine walkL_exit ?_ | refine blockA_here ?_ | refine blockA_other rfl ?_ | refine blockA_ret ?_ | refine blockA_normal ?_ | refine thenA_ret ?_ | refine thenA_exit ?_ | refine thenA_normal ?_)
  simp (maxSteps := 4000000) only [go_sem]
def noHour : Hour := ⟨⟨0, 0⟩, ⟨0, 0⟩, ⟨0, 0⟩⟩
def hourAt (l : List Hour) (i : Int) : Hour := l.getD i.toNat noHour
theorem hourAt_get {l : List Hour} {i : Int} (h : 0 ≤ i ∧ i.toNat < l.length) : l[i.toNat]? = some (hourAt l i) := by
  unfold hourAt
  rw [List.getD, List.getElem?_eq_getElem h.2]
  rfl
theorem zf130 (s : Sight) (l : List Hour) (h : 0 ≤ s.hour ∧ s.hour.toNat < l.length) : Fn Tryz.prog 130 [.agg s.row, .ptr [.sl (hourRows l)] 0] (.bool (insideB s.sky (hourAt l s.hour))) := by
  have g1 := hourRows_at (hourAt_get h)
  have h110 := zf131 s.sky (hourAt l s.hour)
  rw [Sky.row, Hour.row] at h110
  refine fn_walk 12 Tryz.call130 Tryz.func130 rfl (by decide) fun J => ?_
  simp (maxSteps := 4000000) only [go_sem, St.start, Tryz.ntmps130, Tryz.results130, Sight.row]
  repeat (first | refine walkL_seq ?_ | refine walkL_skip ?_ | refine walkL_block ?_ | (refine walkL_region fun K hK => ?_; simp (maxSteps := 4000000) only [go_sem]; refine hK _ ?_; clear hK K) | refine walkL_nil ?_ | refine walkL_ret ?_ | refine walkL_exit ?_ | refine blockA_here ?_ | refine blockA_other rfl ?_ | refine blockA_ret ?_ | refine blockA_normal ?_ | refine thenA_ret ?_ | refine thenA_exit ?_ | refine thenA_normal ?_)
  refine walkL_drawn (by kernel_rfl) (by kernel_rfl) fun K hK => ?_
  simp (maxSteps := 4000000) only [go_sem, g1, h.1, Hour.row]
  refine ⟨_, .fn (hf := h110) (hd := rfl) (hr := .inl rfl), ?_⟩
  simp (maxSteps := 4000000) only [go_sem]
  refine ⟨by kernel_rfl, hK _ ?_⟩
  clear hK K
  repeat (first | refine walkL_seq ?_ | refine walkL_skip ?_ | refine walkL_block ?_ | (refine walkL_region fun K hK => ?_; simp (maxSteps := 4000000) only [go_sem]; refine hK _ ?_; clear hK K) | refine walkL_nil ?_ | refine walkL_ret ?_ | refine walkL_exit ?_ | refine blockA_here ?_ | refine blockA_other rfl ?_ | refine blockA_ret ?_ | refine blockA_normal ?_ | refine thenA_ret ?_ | refine thenA_exit ?_ | refine thenA_normal ?_)
  simp (maxSteps := 4000000) only [go_sem]
def seenHours (seen : List Sight) (l : List Hour) : List Hour := seen.foldl (fun l s => l.set s.hour.toNat (pointH s.sky)) l
def agreesB (seen : List Sight) (l : List Hour) : Bool := seen.all fun s => insideB s.sky (hourAt l s.hour)
theorem seenHours_len (seen : List Sight) : ∀ l : List Hour, (seenHours seen l).length = l.length := by
  induction seen with
  | nil => intro l; rfl
  | cons s seen ih => intro l; rw [seenHours, List.foldl_cons]; exact (ih _).trans (by simp)
def possFrom (seen : List Sight) : List (List Hour) → Nat → List (Nat × List Hour)
  | [], _ => []
  | l :: F, j => if agreesB seen l then (j, seenHours seen l) :: possFrom seen F (j + 1) else possFrom seen F (j + 1)
def possL (F : List (List Hour)) (seen : List Sight) : List (Nat × List Hour) := possFrom seen F 0
def numsOf (l : List (Nat × List Hour)) : List Int := l.map fun x => (x.1 : Int)
def scensOf (l : List (Nat × List Hour)) : List (List Hour) := l.map (·.2)
theorem possFrom_push (seen : List Sight) (x : List Hour) : ∀ (F : List (List Hour)) (j : Nat), possFrom seen (F ++ [x]) j = possFrom seen F j ++ if agreesB seen x then [(j + F.length, seenHours seen x)] else []
  | [], j => by simp [possFrom]
  | l :: F, j => by
    rw [List.cons_append, possFrom, possFrom, possFrom_push seen x F (j + 1), List.length_cons, show j + 1 + F.length = j + (F.length + 1) by omega]
    by_cases h : agreesB seen l = true
    · rw [if_pos h, if_pos h]; rfl
    · rw [if_neg h, if_neg h]
theorem possFrom_len (seen : List Sight) : ∀ (F : List (List Hour)) (j : Nat), (possFrom seen F j).length ≤ F.length
  | [], _ => Nat.le_refl _
  | l :: F, j => by
    rw [possFrom]
    have := possFrom_len seen F (j + 1)
    split <;> simp <;> omega
theorem nums_push (l : List (Nat × List Hour)) (i : Nat) (x : List Hour) : intRows (numsOf (l ++ [(i, x)])) = intRows (numsOf l) ++ [[.i (i : Int)]] := by simp [numsOf, intRows]
theorem scens_push (l : List (Nat × List Hour)) (i : Nat) (x : List Hour) : scenRows (scensOf (l ++ [(i, x)])) = scenRows (scensOf l) ++ [[.sl (hourRows x)]] := by simp [scensOf, scenRows]
theorem nums_len (l : List (Nat × List Hour)) : (numsOf l).length = l.length := by simp [numsOf]
def lookF (F : List (List Hour)) (seen : List Sight) (err : Int) (told : Bool) : Int :=
  if badF F then 50 else if sightsB (hd0 F).length seen then (if err = 0 then (if told then (if (possL F seen).isEmpty then 3 else 0) else 1) else err) else 51
def lookV (F : List (List Hour)) (seen : List Sight) : DV := .ptr [.sl (intRows (numsOf (possL F seen))), .sl (scenRows (scensOf (possL F seen))), .i (hd0 F).length] 0
structure ForeGood (F : List (List Hour)) : Prop where
  scen : 1 ≤ F.length ∧ F.length ≤ 6
  hours : 1 ≤ (hd0 F).length ∧ (hd0 F).length ≤ 48
  len : ∀ l ∈ F, l.length = (hd0 F).length
  hour : ∀ l ∈ F, ∀ h ∈ l, hourB h = true
theorem fore_iff {F : List (List Hour)} : badF F = false ↔ ForeGood F := by
  unfold badF
  rw [Bool.or_eq_false_iff, Bool.not_eq_false', Bool.not_eq_false', within_iff, List.all_eq_true]
  constructor
  · rintro ⟨h1, h2⟩
    have h3 : ∀ l ∈ F, (1 ≤ l.length ∧ l.length ≤ 48) ∧ l.length = (hd0 F).length ∧ ∀ h ∈ l, hourB h = true := fun l hl => by
      have := h2 l hl
      unfold scenB at this
      rw [Bool.and_eq_true, Bool.and_eq_true, within_iff, List.all_eq_true] at this
      refine ⟨by omega, ?_, this.2.2⟩
      have := this.2.1
      have e := eq_of_beq this
      omega
    refine ⟨by omega, ?_, fun l hl => (h3 l hl).2.1, fun l hl => (h3 l hl).2.2⟩
    have hm : hd0 F ∈ F := List.mem_of_getElem? (headD_get (by omega))
    exact (h3 _ hm).1
  · intro h
    refine ⟨by have := h.scen; omega, fun l hl => ?_⟩
    unfold scenB
    have e := h.len l hl
    have := h.hours
    rw [Bool.and_eq_true, Bool.and_eq_true, within_iff, List.all_eq_true]
    exact ⟨by omega, by simp [e], h.hour l hl⟩
theorem sights_spec {H : Int} {seen : List Sight} (h : sightsB H seen = true) : (∀ s ∈ seen, 0 ≤ s.hour ∧ s.hour < H ∧ hourB (pointH s.sky) = true) ∧ (seen.map (·.hour)).Nodup ∧ seen.length ≤ 20 := by
  unfold sightsB at h
  rw [Bool.and_eq_true, Bool.and_eq_true, List.all_eq_true] at h
  refine ⟨fun s hs => ?_, of_decide_eq_true h.2.1, by have := of_decide_eq_true h.2.2; omega⟩
  have := h.1 s hs
  unfold sightOk at this
  rw [Bool.and_eq_true, within_iff] at this
  exact ⟨by omega, by omega, this.2⟩
theorem hourRows_set {l : List Hour} {i : Nat} {h : Hour} : (hourRows l).set i h.row = hourRows (l.set i h) := by simp [hourRows]
theorem zf79 (F : List (List Hour)) (seen : List Sight) (err : Int) (told : Bool) (hs : ForeSmall F) (hsl : seen.length < 2 ^ 30) :
    Fn Tryz.prog 79 [.agg [.sl (scenRows F)], .sl (sightRows seen), .agg [.i err, .bool told]]
      (.tup [if lookF F seen err told = 0 then lookV F seen else .nilptr, .i (lookF F seen err told)]) := by
  have h106 := zf127 F hs
  refine fn_walk 96 Tryz.call79 Tryz.func79 rfl (by decide) fun J => ?_
  simp (maxSteps := 4000000) only [go_sem, St.start, Tryz.ntmps79, Tryz.results79]
  cases hbad : badF F with
  | true =>
    have e : lookF F seen err told = 50 := by simp [lookF, hbad]
    have e2 : foreF F = 50 := by simp [foreF, hbad]
    rw [e2] at h106
    rw [e, if_neg (by decide)]
    repeat (first | refine walkL_seq ?_ | refine walkL_skip ?_ | refine walkL_block ?_ | (refine walkL_region fun K hK => ?_; simp (maxSteps := 4000000) only [go_sem]; (repeat (first | (refine ⟨_, .lent (hf := h106) (hd := rfl) (hr := rfl), ?_⟩; simp (maxSteps := 4000000) only [go_sem]) | (refine ⟨_, .given (hf := h106) (hd := rfl) (ha := rfl), ?_⟩; simp (maxSteps := 4000000) only [go_sem]))); refine hK _ ?_; clear hK K) | refine walkL_nil ?_ | refine walkL_ret ?_ | refine walkL_exit ?_ | refine blockA_here ?_ | refine blockA_other rfl ?_ | refine blockA_ret ?_ | refine blockA_normal ?_ | refine thenA_ret ?_ | refine thenA_exit ?_ | refine thenA_normal ?_)
    refine walkL_true rfl ?_
    repeat (first | refine walkL_seq ?_ | refine walkL_skip ?_ | refine walkL_block ?_ | (refine walkL_region fun K hK => ?_; simp (maxSteps := 4000000) only [go_sem]; refine hK _ ?_; clear hK K) | refine walkL_nil ?_ | refine walkL_ret ?_ | refine walkL_exit ?_ | refine blockA_here ?_ | refine blockA_other rfl ?_ | refine blockA_ret ?_ | refine blockA_normal ?_ | refine thenA_ret ?_ | refine thenA_exit ?_ | refine thenA_normal ?_)
    simp (maxSteps := 4000000) only [go_sem]
  | false =>
    have hg := fore_iff.1 hbad
    have e2 : foreF F = 0 := by simp [foreF, hbad]
    rw [e2] at h106
    have hF := hg.scen
    have hH := hg.hours
    have h0 : F[0]? = some (hd0 F) := headD_get (by omega)
    obtain ⟨H0, hH0⟩ : ∃ H0, H0 = hd0 F := ⟨_, rfl⟩
    rw [← hH0] at h0 hH
    have h107 := zf128 F H0 seen h0 (by omega) hsl
    have g0 := scenRows_at h0
    cases hsi : sightsB (H0.length : Int) seen with
    | false =>
      have e : lookF F seen err told = 51 := by simp [lookF, hbad, ← hH0, hsi]
      rw [hsi] at h107
      rw [e, if_neg (by decide)]
      repeat (first | refine walkL_seq ?_ | refine walkL_skip ?_ | refine walkL_block ?_ | (refine walkL_region fun K hK => ?_; simp (maxSteps := 4000000) only [go_sem]; (repeat (first | (refine ⟨_, .lent (hf := h106) (hd := rfl) (hr := rfl), ?_⟩; simp (maxSteps := 4000000) only [go_sem]) | (refine ⟨_, .given (hf := h106) (hd := rfl) (ha := rfl), ?_⟩; simp (maxSteps := 4000000) only [go_sem]))); refine hK _ ?_; clear hK K) | refine walkL_nil ?_ | refine walkL_ret ?_ | refine walkL_exit ?_ | refine blockA_here ?_ | refine blockA_other rfl ?_ | refine blockA_ret ?_ | refine blockA_normal ?_ | refine thenA_ret ?_ | refine thenA_exit ?_ | refine thenA_normal ?_)
      refine walkL_false rfl ?_
      repeat (first | refine walkL_seq ?_ | refine walkL_skip ?_ | refine walkL_block ?_ | (refine walkL_region fun K hK => ?_; simp (maxSteps := 4000000) only [go_sem]; (repeat (first | (refine ⟨_, .lent (hf := h107) (hd := rfl) (hr := rfl), ?_⟩; simp (maxSteps := 4000000) only [go_sem]) | (refine ⟨_, .given (hf := h107) (hd := rfl) (ha := rfl), ?_⟩; simp (maxSteps := 4000000) only [go_sem]))); refine hK _ ?_; clear hK K) | refine walkL_nil ?_ | refine walkL_ret ?_ | refine walkL_exit ?_ | refine blockA_here ?_ | refine blockA_other rfl ?_ | refine blockA_ret ?_ | refine blockA_normal ?_ | refine thenA_ret ?_ | refine thenA_exit ?_ | refine thenA_normal ?_)
      refine walkL_true rfl ?_
      repeat (first | refine walkL_seq ?_ | refine walkL_skip ?_ | refine walkL_block ?_ | (refine walkL_region fun K hK => ?_; simp (maxSteps := 4000000) only [go_sem]; refine hK _ ?_; clear hK K) | refine walkL_nil ?_ | refine walkL_ret ?_ | refine walkL_exit ?_ | refine blockA_here ?_ | refine blockA_other rfl ?_ | refine blockA_ret ?_ | refine blockA_normal ?_ | refine thenA_ret ?_ | refine thenA_exit ?_ | refine thenA_normal ?_)
      simp (maxSteps := 4000000) only [go_sem]
    | true =>
      rw [hsi] at h107
      obtain ⟨s1, s2, s3⟩ := sights_spec hsi
      repeat (first | refine walkL_seq ?_ | refine walkL_skip ?_ | refine walkL_block ?_ | (refine walkL_region fun K hK => ?_; simp (maxSteps := 4000000) only [go_sem]; (repeat (first | (refine ⟨_, .lent (hf := h106) (hd := rfl) (hr := rfl), ?_⟩; simp (maxSteps := 4000000) only [go_sem]) | (refine ⟨_, .given (hf := h106) (hd := rfl) (ha := rfl), ?_⟩; simp (maxSteps := 4000000) only [go_sem]))); refine hK _ ?_; clear hK K) | refine walkL_nil ?_ | refine walkL_ret ?_ | refine walkL_exit ?_ | refine blockA_here ?_ | refine blockA_other rfl ?_ | refine blockA_ret ?_ | refine blockA_normal ?_ | refine thenA_ret ?_ | refine thenA_exit ?_ | refine thenA_normal ?_)
      refine walkL_false rfl ?_
      repeat (first | refine walkL_seq ?_ | refine walkL_skip ?_ | refine walkL_block ?_ | (refine walkL_region fun K hK => ?_; simp (maxSteps := 4000000) only [go_sem]; (repeat (first | (refine ⟨_, .lent (hf := h107) (hd := rfl) (hr := rfl), ?_⟩; simp (maxSteps := 4000000) only [go_sem]) | (refine ⟨_, .given (hf := h107) (hd := rfl) (ha := rfl), ?_⟩; simp (maxSteps := 4000000) only [go_sem]))); refine hK _ ?_; clear hK K) | refine walkL_nil ?_ | refine walkL_ret ?_ | refine walkL_exit ?_ | refine blockA_here ?_ | refine blockA_other rfl ?_ | refine blockA_ret ?_ | refine blockA_normal ?_ | refine thenA_ret ?_ | refine thenA_exit ?_ | refine thenA_normal ?_)
      refine walkL_false rfl ?_
      repeat (first | refine walkL_seq ?_ | refine walkL_skip ?_ | refine walkL_block ?_ | (refine walkL_region fun K hK => ?_; simp (maxSteps := 4000000) only [go_sem]; refine hK _ ?_; clear hK K) | refine walkL_nil ?_ | refine walkL_ret ?_ | refine walkL_exit ?_ | refine blockA_here ?_ | refine blockA_other rfl ?_ | refine blockA_ret ?_ | refine blockA_normal ?_ | refine thenA_ret ?_ | refine thenA_exit ?_ | refine thenA_normal ?_)
      by_cases herr : err = 0
      · subst herr
        refine walkL_false rfl ?_
        repeat (first | refine walkL_seq ?_ | refine walkL_skip ?_ | refine walkL_block ?_ | (refine walkL_region fun K hK => ?_; simp (maxSteps := 4000000) only [go_sem]; refine hK _ ?_; clear hK K) | refine walkL_nil ?_ | refine walkL_ret ?_ | refine walkL_exit ?_ | refine blockA_here ?_ | refine blockA_other rfl ?_ | refine blockA_ret ?_ | refine blockA_normal ?_ | refine thenA_ret ?_ | refine thenA_exit ?_ | refine thenA_normal ?_)
        cases told with
        | false =>
          have e : lookF F seen 0 false = 1 := by simp [lookF, hbad, ← hH0, hsi]
          rw [e, if_neg (by decide)]
          refine walkL_true rfl ?_
          repeat (first | refine walkL_seq ?_ | refine walkL_skip ?_ | refine walkL_block ?_ | (refine walkL_region fun K hK => ?_; simp (maxSteps := 4000000) only [go_sem]; refine hK _ ?_; clear hK K) | refine walkL_nil ?_ | refine walkL_ret ?_ | refine walkL_exit ?_ | refine blockA_here ?_ | refine blockA_other rfl ?_ | refine blockA_ret ?_ | refine blockA_normal ?_ | refine thenA_ret ?_ | refine thenA_exit ?_ | refine thenA_normal ?_)
          simp (maxSteps := 4000000) only [go_sem]
        | true =>
          refine walkL_false rfl ?_
          repeat (first | refine walkL_seq ?_ | refine walkL_skip ?_ | refine walkL_block ?_ | (refine walkL_region fun K hK => ?_; simp (maxSteps := 4000000) only [go_sem, g0]; refine hK _ ?_; clear hK K) | refine walkL_nil ?_ | refine walkL_ret ?_ | refine walkL_exit ?_ | refine blockA_here ?_ | refine blockA_other rfl ?_ | refine blockA_ret ?_ | refine blockA_normal ?_ | refine thenA_ret ?_ | refine thenA_exit ?_ | refine thenA_normal ?_)
          refine walkL_loopS (fun (i : Nat) => [(43, .d (.i i))]) (fun i => [(39, some (.box [.own 75, .own 85, .d (.i H0.length)])), (75, some (.arr 3 1 (intRows (numsOf (possFrom seen (F.take i) 0))))), (85, some (.arr 71 1 (scenRows (scensOf (possFrom seen (F.take i) 0)))))]) (fun i => i ≤ F.length) (fun i => F.length - i) 0 ?_ (Nat.zero_le _) ?_
          · simp (maxSteps := 4000000) only [go_sem]
            refine weak_of [75, 85] ?_ ?_ rfl rfl <;> simp [lessT, lessM, lessB, AV.less]
            all_goals first | done | rfl | exact ⟨rfl, rfl⟩
          · intro i hi
            simp (maxSteps := 4000000) only [go_sem]
            repeat (first | refine walkL_seq ?_ | refine walkL_skip ?_ | refine walkL_block ?_ | (refine walkL_region fun K hK => ?_; simp (maxSteps := 4000000) only [go_sem]; refine hK _ ?_; clear hK K) | refine walkL_nil ?_ | refine walkL_ret ?_ | refine walkL_exit ?_ | refine blockA_here ?_ | refine blockA_other rfl ?_ | refine blockA_ret ?_ | refine blockA_normal ?_ | refine thenA_ret ?_ | refine thenA_exit ?_ | refine thenA_normal ?_)
            refine walkL_cond rfl (fun hb => ?_) (fun hb => ?_)
            · have hlt : i < F.length := by simpa using hb
              have hw : IntKind.i64.wrap ((i : Int) + 1) = ((i + 1 : Nat) : Int) := by rw [wr_small (by omega)]; simp
              obtain ⟨l, hl⟩ : ∃ l, F[i]? = some l := ⟨_, List.getElem?_eq_getElem hlt⟩
              have hlm := List.mem_of_getElem? hl
              have hll : l.length = H0.length := by rw [hH0]; exact hg.len l hlm
              have g1 := scenRows_at hl
              have htk : F.take (i + 1) = F.take i ++ [l] := by rw [List.take_add_one, hl]; rfl
              have hp := possFrom_push seen l (F.take i) 0
              have htl : (F.take i).length = i := by simp; omega
              rw [← htk, htl, Nat.zero_add] at hp
              have hpl := possFrom_len seen (F.take i) 0
              rw [htl] at hpl
              have h81 := zf120 l (by intro e; rw [e] at hll; simp at hll; omega) (by omega)
              have hrange : ∀ s ∈ seen, 0 ≤ s.hour ∧ s.hour.toNat < l.length := fun s hm => by have := s1 s hm; omega
              have h108 := zf129 seen 130 [.ptr [.sl (hourRows l)] 0] (fun s => insideB s.sky (hourAt l s.hour)) (fun s hm => zf130 s l (hrange s hm)) (by omega)
              change Fn _ _ _ (.bool (agreesB seen l)) at h108
              repeat (first | refine walkL_seq ?_ | refine walkL_skip ?_ | refine walkL_block ?_ | (refine walkL_region fun K hK => ?_; simp (maxSteps := 4000000) only [go_sem, g1]; refine hK _ ?_; clear hK K) | refine walkL_nil ?_ | refine walkL_ret ?_ | refine walkL_exit ?_ | refine blockA_here ?_ | refine blockA_other rfl ?_ | refine blockA_ret ?_ | refine blockA_normal ?_ | refine thenA_ret ?_ | refine thenA_exit ?_ | refine thenA_normal ?_)
              refine walkL_region fun K hK => ?_
              simp (maxSteps := 4000000) only [go_sem, g1]
              refine ⟨_, .lentS (hdst := rfl) (hf := h81) (hd := rfl) (hr := by first | exact rowsFlat_int _ | exact rowsFlat_hour _ | exact rowsFlat_sight _ | exact rowsFlat_sky _ | exact rowsFlat_span _ | exact rowsFlat_bool _) (hfr := rfl), ?_⟩
              simp (maxSteps := 4000000) only [go_sem]
              refine hK _ ?_
              clear hK K
              have hn1 : (numsOf (possFrom seen (F.take i) 0)).length + 1 ≤ 549755813888 := by simp [numsOf]; omega
              have hn2 : (scensOf (possFrom seen (F.take i) 0)).length + 1 ≤ 549755813888 := by simp [scensOf]; omega
              repeat (first | refine walkL_seq ?_ | refine walkL_skip ?_ | refine walkL_block ?_ | (refine walkL_region fun K hK => ?_; simp (maxSteps := 4000000) only [go_sem]; (repeat (first | (refine ⟨_, .lent (hf := h108) (hd := rfl) (hr := rfl), ?_⟩; simp (maxSteps := 4000000) only [go_sem]) | (refine ⟨_, .given (hf := h108) (hd := rfl) (ha := rfl), ?_⟩; simp (maxSteps := 4000000) only [go_sem]))); refine hK _ ?_; clear hK K) | refine walkL_nil ?_ | refine walkL_ret ?_ | refine walkL_exit ?_ | refine blockA_here ?_ | refine blockA_other rfl ?_ | refine blockA_ret ?_ | refine blockA_normal ?_ | refine thenA_ret ?_ | refine thenA_exit ?_ | refine thenA_normal ?_)
              refine walkL_cond rfl (fun hc => ?_) (fun hc => ?_)
              · rw [if_pos hc] at hp
                repeat (first | refine walkL_seq ?_ | refine walkL_skip ?_ | refine walkL_block ?_ | (refine walkL_region fun K hK => ?_; simp (maxSteps := 4000000) only [go_sem]; refine hK _ ?_; clear hK K) | refine walkL_nil ?_ | refine walkL_ret ?_ | refine walkL_exit ?_ | refine blockA_here ?_ | refine blockA_other rfl ?_ | refine blockA_ret ?_ | refine blockA_normal ?_ | refine thenA_ret ?_ | refine thenA_exit ?_ | refine thenA_normal ?_)
                refine walkL_loopS (fun (k : Nat) => [(56, .d (.i k))]) (fun k => [(50, some (.arr 191 6 (hourRows (seenHours (seen.take k) l))))]) (fun k => k ≤ seen.length) (fun k => seen.length - k) 0 ?_ (Nat.zero_le _) ?_
                · simp (maxSteps := 4000000) only [go_sem]
                  refine weak_of [] ?_ ?_ rfl rfl <;> simp [lessT, lessM, lessB, AV.less]
                  first | done | rfl
                · intro k hk
                  simp (maxSteps := 4000000) only [go_sem]
                  repeat (first | refine walkL_seq ?_ | refine walkL_skip ?_ | refine walkL_block ?_ | (refine walkL_region fun K hK => ?_; simp (maxSteps := 4000000) only [go_sem]; refine hK _ ?_; clear hK K) | refine walkL_nil ?_ | refine walkL_ret ?_ | refine walkL_exit ?_ | refine blockA_here ?_ | refine blockA_other rfl ?_ | refine blockA_ret ?_ | refine blockA_normal ?_ | refine thenA_ret ?_ | refine thenA_exit ?_ | refine thenA_normal ?_)
                  refine walkL_cond rfl (fun hb => ?_) (fun hb => ?_)
                  · have hlt2 : k < seen.length := by simpa using hb
                    have hw2 : IntKind.i64.wrap ((k : Int) + 1) = ((k + 1 : Nat) : Int) := by rw [wr_small (by omega)]; simp
                    obtain ⟨s, hsk⟩ : ∃ s, seen[k]? = some s := ⟨_, List.getElem?_eq_getElem hlt2⟩
                    have gs := sightRows_at hsk
                    have hr := hrange s (List.mem_of_getElem? hsk)
                    have hlk := seenHours_len (seen.take k) l
                    have gr := hourRows_at (hourAt_get (l := seenHours (seen.take k) l) (i := s.hour) ⟨hr.1, by rw [hlk]; exact hr.2⟩)
                    have hnx : seenHours (seen.take (k + 1)) l = (seenHours (seen.take k) l).set s.hour.toNat (pointH s.sky) := foldl_take_succ _ _ _ _ _ hsk
                    have h111 := zf132 s.sky
                    rw [Sky.row] at h111
                    repeat (first | refine walkL_seq ?_ | refine walkL_skip ?_ | refine walkL_block ?_ | (refine walkL_region fun K hK => ?_; simp (maxSteps := 4000000) only [go_sem, gs, Sight.row]; refine hK _ ?_; clear hK K) | refine walkL_nil ?_ | refine walkL_ret ?_ | refine walkL_exit ?_ | refine blockA_here ?_ | refine blockA_other rfl ?_ | refine blockA_ret ?_ | refine blockA_normal ?_ | refine thenA_ret ?_ | refine thenA_exit ?_ | refine thenA_normal ?_)
                    refine walkL_drawn (by kernel_rfl) (by kernel_rfl) fun K hK => ?_
                    simp (maxSteps := 4000000) only [go_sem, gs, Sight.row, hlk, hr.1, hr.2, gr, Hour.row]
                    refine ⟨_, .fn (hf := h111) (hd := rfl) (hr := .inl rfl), ?_⟩
                    simp (maxSteps := 4000000) only [go_sem, gr, hlk, hr.1, hr.2, Hour.row, pointH]
                    refine ⟨by kernel_rfl, hK _ ?_⟩
                    clear hK K
                    repeat (first | refine walkL_seq ?_ | refine walkL_skip ?_ | refine walkL_block ?_ | (refine walkL_region fun K hK => ?_; simp (maxSteps := 4000000) only [go_sem, hw2]; refine hK _ ?_; clear hK K) | refine walkL_nil ?_ | refine walkL_ret ?_ | refine walkL_exit ?_ | refine blockA_here ?_ | refine blockA_other rfl ?_ | refine blockA_ret ?_ | refine blockA_normal ?_ | refine thenA_ret ?_ | refine thenA_exit ?_ | refine thenA_normal ?_)
                    refine ⟨rfl, k + 1, ?_, hlt2, by omega⟩
                    rw [hnx, ← hourRows_set]
                    refine weak_of [] ?_ ?_ rfl rfl <;> simp [lessT, lessM, lessB, AV.less]
                    first | done | rfl
                  · have he : k = seen.length := by (have : ¬ k < seen.length := by simpa using hb); omega
                    subst he
                    rw [List.take_length]
                    repeat (first | refine walkL_seq ?_ | refine walkL_skip ?_ | refine walkL_block ?_ | (refine walkL_region fun K hK => ?_; simp (maxSteps := 4000000) only [go_sem, hn1, hn2]; refine hK _ ?_; clear hK K) | refine walkL_nil ?_ | refine walkL_ret ?_ | refine walkL_exit ?_ | refine blockA_here ?_ | refine blockA_other rfl ?_ | refine blockA_ret ?_ | refine blockA_normal ?_ | refine thenA_ret ?_ | refine thenA_exit ?_ | refine thenA_normal ?_)
                    refine walkL_release [50] ?_
                    simp (maxSteps := 4000000) only [go_sem]
                    refine walkL_drawnA (by kernel_rfl) (by kernel_rfl) fun K hK => ?_
                    simp (maxSteps := 4000000) only [go_sem, hn1, hn2]
                    refine ⟨by kernel_rfl, hK _ ?_⟩
                    clear hK K
                    repeat (first | refine walkL_seq ?_ | refine walkL_skip ?_ | refine walkL_block ?_ | (refine walkL_region fun K hK => ?_; simp (maxSteps := 4000000) only [go_sem, hw]; refine hK _ ?_; clear hK K) | refine walkL_nil ?_ | refine walkL_ret ?_ | refine walkL_exit ?_ | refine blockA_here ?_ | refine blockA_other rfl ?_ | refine blockA_ret ?_ | refine blockA_normal ?_ | refine thenA_ret ?_ | refine thenA_exit ?_ | refine thenA_normal ?_)
                    refine ⟨rfl, i + 1, ?_, hlt, by omega⟩
                    rw [hp, nums_push, scens_push]
                    refine weak_of [] ?_ ?_ rfl rfl <;> simp [lessT, lessM, lessB, AV.less]
                    all_goals first | done | rfl | exact ⟨rfl, rfl⟩
              · rw [if_neg (by rw [hc]; simp), List.append_nil] at hp
                repeat (first | refine walkL_seq ?_ | refine walkL_skip ?_ | refine walkL_block ?_ | (refine walkL_region fun K hK => ?_; simp (maxSteps := 4000000) only [go_sem, hw]; refine hK _ ?_; clear hK K) | refine walkL_nil ?_ | refine walkL_ret ?_ | refine walkL_exit ?_ | refine blockA_here ?_ | refine blockA_other rfl ?_ | refine blockA_ret ?_ | refine blockA_normal ?_ | refine thenA_ret ?_ | refine thenA_exit ?_ | refine thenA_normal ?_)
                refine ⟨rfl, i + 1, ?_, hlt, by omega⟩
                rw [hp]
                refine weak_of [] ?_ ?_ rfl rfl <;> simp [lessT, lessM, lessB, AV.less]
            · have he : i = F.length := by (have : ¬ i < F.length := by simpa using hb); omega
              subst he
              rw [List.take_length]
              repeat (first | refine walkL_seq ?_ | refine walkL_skip ?_ | refine walkL_block ?_ | (refine walkL_region fun K hK => ?_; simp (maxSteps := 4000000) only [go_sem, nums_len]; refine hK _ ?_; clear hK K) | refine walkL_nil ?_ | refine walkL_ret ?_ | refine walkL_exit ?_ | refine blockA_here ?_ | refine blockA_other rfl ?_ | refine blockA_ret ?_ | refine blockA_normal ?_ | refine thenA_ret ?_ | refine thenA_exit ?_ | refine thenA_normal ?_)
              cases hp : possL F seen with
              | nil =>
                have e : lookF F seen 0 true = 3 := by simp [lookF, hbad, ← hH0, hsi, hp]
                rw [e, if_neg (by decide)]
                have hp' : possFrom seen F 0 = [] := hp
                rw [hp']
                refine walkL_true rfl ?_
                repeat (first | refine walkL_seq ?_ | refine walkL_skip ?_ | refine walkL_block ?_ | (refine walkL_region fun K hK => ?_; simp (maxSteps := 4000000) only [go_sem]; refine hK _ ?_; clear hK K) | refine walkL_nil ?_ | refine walkL_ret ?_ | refine walkL_exit ?_ | refine blockA_here ?_ | refine blockA_other rfl ?_ | refine blockA_ret ?_ | refine blockA_normal ?_ | refine thenA_ret ?_ | refine thenA_exit ?_ | refine thenA_normal ?_)
                simp (maxSteps := 4000000) only [go_sem]
              | cons y ys =>
                have e : lookF F seen 0 true = 0 := by simp [lookF, hbad, ← hH0, hsi, hp]
                rw [e, if_pos rfl, lookV, hp, ← hH0]
                have hp' : possFrom seen F 0 = y :: ys := hp
                rw [hp']
                have hz : ((((y :: ys).length : Nat) : Int) == 0) = false := by simp; omega
                simp (maxSteps := 4000000) only [go_sem, hz]
                refine walkL_false rfl ?_
                repeat (first | refine walkL_seq ?_ | refine walkL_skip ?_ | refine walkL_block ?_ | (refine walkL_region fun K hK => ?_; simp (maxSteps := 4000000) only [go_sem]; refine hK _ ?_; clear hK K) | refine walkL_nil ?_ | refine walkL_ret ?_ | refine walkL_exit ?_ | refine blockA_here ?_ | refine blockA_other rfl ?_ | refine blockA_ret ?_ | refine blockA_normal ?_ | refine thenA_ret ?_ | refine thenA_exit ?_ | refine thenA_normal ?_)
                simp (maxSteps := 4000000) only [go_sem]
      · have e : lookF F seen err told = err := by simp [lookF, hbad, ← hH0, hsi, herr]
        rw [e, if_neg herr]
        have hne : (err != 0) = true := by simpa using herr
        simp (maxSteps := 4000000) only [go_sem, hne]
        refine walkL_true rfl ?_
        repeat (first | refine walkL_seq ?_ | refine walkL_skip ?_ | refine walkL_block ?_ | (refine walkL_region fun K hK => ?_; simp (maxSteps := 4000000) only [go_sem]; refine hK _ ?_; clear hK K) | refine walkL_nil ?_ | refine walkL_ret ?_ | refine walkL_exit ?_ | refine blockA_here ?_ | refine blockA_other rfl ?_ | refine blockA_ret ?_ | refine blockA_normal ?_ | refine thenA_ret ?_ | refine thenA_exit ?_ | refine thenA_normal ?_)
        refine walkL_drawn (by kernel_rfl) (by kernel_rfl) fun K hK => ?_
        simp (maxSteps := 4000000) only [go_sem]
        refine ⟨by kernel_rfl, hK _ ?_⟩
        clear hK K
        repeat (first | refine walkL_seq ?_ | refine walkL_skip ?_ | refine walkL_block ?_ | (refine walkL_region fun K hK => ?_; simp (maxSteps := 4000000) only [go_sem]; refine hK _ ?_; clear hK K) | refine walkL_nil ?_ | refine walkL_ret ?_ | refine walkL_exit ?_ | refine blockA_here ?_ | refine blockA_other rfl ?_ | refine blockA_ret ?_ | refine blockA_normal ?_ | refine thenA_ret ?_ | refine thenA_exit ?_ | refine thenA_normal ?_)
        simp (maxSteps := 4000000) only [go_sem]
end Go.Ab
namespace Go.Ab
open Go.RowKit Go.Proofs
set_option maxHeartbeats 4000000
set_option maxRecDepth 20000
attribute [local irreducible] WalkL Walk
theorem zf34 (F : List (List Hour)) (seen : List Sight) (hs : ForeSmall F) (hsl : seen.length < 2 ^ 30) :
    Fn Tryz.prog 34 [.agg [.sl (scenRows F)], .sl (sightRows seen)] (.tup [.sl (intRows (if lookF F seen 0 true = 0 then numsOf (possL F seen) else [])), .i (lookF F seen 0 true)]) := by
  have h100 := zf79 F seen 0 true hs hsl
  obtain ⟨e, he⟩ : ∃ e, e = lookF F seen 0 true := ⟨_, rfl⟩
  rw [← he] at h100 ⊢
  refine fn_walk 22 Tryz.call34 Tryz.func34 rfl (by decide) fun J => ?_
  simp (maxSteps := 4000000) only [go_sem, St.start, Tryz.ntmps34, Tryz.results34]
  by_cases h0 : e = 0
  · rw [if_pos h0, lookV] at h100
    rw [if_pos h0]
    have hz : (e != 0) = false := by simp [h0]
    repeat (first | refine walkL_true rfl ?_ | refine walkL_false rfl ?_ | refine walkL_seq ?_ | refine walkL_skip ?_ | refine walkL_block ?_ | (refine walkL_region fun K hK => ?_; simp (maxSteps := 4000000) only [go_sem, hz]; (repeat (first | (refine ⟨_, .lent (hf := h100) (hd := rfl) (hr := rfl), ?_⟩; simp (maxSteps := 4000000) only [go_sem, hz]) | (refine ⟨_, .given (hf := h100) (hd := rfl) (ha := rfl), ?_⟩; simp (maxSteps := 4000000) only [go_sem, hz]))); refine hK _ ?_; clear hK K) | refine walkL_nil ?_ | refine walkL_ret ?_ | refine walkL_exit ?_ | refine blockA_here ?_ | refine blockA_other rfl ?_ | refine blockA_ret ?_ | refine blockA_normal ?_ | refine thenA_ret ?_ | refine thenA_exit ?_ | refine thenA_normal ?_)
    simp (maxSteps := 4000000) only [go_sem, h0]
  · rw [if_neg h0] at h100
    rw [if_neg h0]
    have hz : (e != 0) = true := by simpa using h0
    repeat (first | refine walkL_true rfl ?_ | refine walkL_false rfl ?_ | refine walkL_seq ?_ | refine walkL_skip ?_ | refine walkL_block ?_ | (refine walkL_region fun K hK => ?_; simp (maxSteps := 4000000) only [go_sem, hz]; (repeat (first | (refine ⟨_, .lent (hf := h100) (hd := rfl) (hr := rfl), ?_⟩; simp (maxSteps := 4000000) only [go_sem, hz]) | (refine ⟨_, .given (hf := h100) (hd := rfl) (ha := rfl), ?_⟩; simp (maxSteps := 4000000) only [go_sem, hz]))); refine hK _ ?_; clear hK K) | refine walkL_nil ?_ | refine walkL_ret ?_ | refine walkL_exit ?_ | refine blockA_here ?_ | refine blockA_other rfl ?_ | refine blockA_ret ?_ | refine blockA_normal ?_ | refine thenA_ret ?_ | refine thenA_exit ?_ | refine thenA_normal ?_)
    simp (maxSteps := 4000000) only [go_sem]
    try rfl
def listRows (l : List (List Int)) : List (List DV) := l.map fun x => [.sl (intRows x)]
theorem listRows_len (l : List (List Int)) : (listRows l).length = l.length := by simp [listRows]
theorem listRows_at {l : List (List Int)} {i : Nat} {x : List Int} (h : l[i]? = some x) : (listRows l)[i]? = some [.sl (intRows x)] := by simp [listRows, h]
theorem listRows_head (l : List (List Int)) : headIs 1 (listRows l) = true := by cases l <;> rfl
attribute [go_sem] listRows_len listRows_head
theorem zf100 (xs : List Int) (g : Nat) (caps : List DV) (q : Int → Bool) (hq : ∀ s ∈ xs, Fn Tryz.prog g (.i s :: caps) (.bool (q s))) (hl : xs.length < 2 ^ 62) : Fn Tryz.prog 100 [.sl (intRows xs), .fn g caps] (.i (idxFrom q xs 0)) := by
  refine fn_walk 19 Tryz.call100 Tryz.func100 rfl (by decide) fun J => ?_
  simp (maxSteps := 4000000) only [go_sem, St.start, Tryz.ntmps100, Tryz.results100]
  repeat (first | refine walkL_seq ?_ | refine walkL_skip ?_ | refine walkL_block ?_ | (refine walkL_region fun K hK => ?_; simp (maxSteps := 4000000) only [go_sem]; refine hK _ ?_; clear hK K) | refine walkL_nil ?_ | refine walkL_ret ?_ | refine walkL_exit ?_ | refine blockA_here ?_ | refine blockA_other rfl ?_ | refine blockA_ret ?_ | refine blockA_normal ?_ | refine thenA_ret ?_ | refine thenA_exit ?_ | refine thenA_normal ?_)
  refine walkL_loopS (fun (i : Nat) => [(8, .d (.i i))]) (fun _ => []) (fun i => i ≤ xs.length ∧ idxFrom q xs 0 = idxFrom q (xs.drop i) i) (fun i => xs.length - i) 0 ?_ ⟨Nat.zero_le _, rfl⟩ ?_
  · simp (maxSteps := 4000000) only [go_sem]
    refine weak_of [] ?_ ?_ rfl rfl <;> simp [lessT, lessM, lessB, AV.less]
  · intro i ⟨hi, hq0⟩
    simp (maxSteps := 4000000) only [go_sem]
    repeat (first | refine walkL_seq ?_ | refine walkL_skip ?_ | refine walkL_block ?_ | (refine walkL_region fun K hK => ?_; simp (maxSteps := 4000000) only [go_sem]; refine hK _ ?_; clear hK K) | refine walkL_nil ?_ | refine walkL_ret ?_ | refine walkL_exit ?_ | refine blockA_here ?_ | refine blockA_other rfl ?_ | refine blockA_ret ?_ | refine blockA_normal ?_ | refine thenA_ret ?_ | refine thenA_exit ?_ | refine thenA_normal ?_)
    refine walkL_cond rfl (fun hb => ?_) (fun hb => ?_)
    · have hlt : i < xs.length := by simpa using hb
      have hw : IntKind.i64.wrap ((i : Int) + 1) = ((i + 1 : Nat) : Int) := by rw [wr_small (by omega)]; simp
      obtain ⟨s, hs⟩ : ∃ s, xs[i]? = some s := ⟨_, List.getElem?_eq_getElem hlt⟩
      rw [drop_get hs, idxFrom] at hq0
      repeat (first | refine walkL_seq ?_ | refine walkL_skip ?_ | refine walkL_block ?_ | (refine walkL_region fun K hK => ?_; simp (maxSteps := 4000000) only [go_sem]; refine hK _ ?_; clear hK K) | refine walkL_nil ?_ | refine walkL_ret ?_ | refine walkL_exit ?_ | refine blockA_here ?_ | refine blockA_other rfl ?_ | refine blockA_ret ?_ | refine blockA_normal ?_ | refine thenA_ret ?_ | refine thenA_exit ?_ | refine thenA_normal ?_)
      refine walkL_region fun K hK => ?_
      simp (maxSteps := 4000000) only [go_sem, hs, List.getElem?_map, intRows_at hs, hw]
      refine ⟨_, .lent (hf := hq s (List.mem_of_getElem? hs)) (hd := reify_caps _ _ _ _ rfl) (hr := rfl), ?_⟩
      simp (maxSteps := 4000000) only [go_sem]
      refine hK _ ?_
      clear hK K
      refine walkL_cond rfl (fun hc => ?_) (fun hc => ?_)
      · rw [hc, if_pos rfl] at hq0
        repeat (first | refine walkL_seq ?_ | refine walkL_skip ?_ | refine walkL_block ?_ | (refine walkL_region fun K hK => ?_; simp (maxSteps := 4000000) only [go_sem]; refine hK _ ?_; clear hK K) | refine walkL_nil ?_ | refine walkL_ret ?_ | refine walkL_exit ?_ | refine blockA_here ?_ | refine blockA_other rfl ?_ | refine blockA_ret ?_ | refine blockA_normal ?_ | refine thenA_ret ?_ | refine thenA_exit ?_ | refine thenA_normal ?_)
        simp (maxSteps := 4000000) only [go_sem, hq0]
      · rw [hc] at hq0
        repeat (first | refine walkL_seq ?_ | refine walkL_skip ?_ | refine walkL_block ?_ | (refine walkL_region fun K hK => ?_; simp (maxSteps := 4000000) only [go_sem, hw]; refine hK _ ?_; clear hK K) | refine walkL_nil ?_ | refine walkL_ret ?_ | refine walkL_exit ?_ | refine blockA_here ?_ | refine blockA_other rfl ?_ | refine blockA_ret ?_ | refine blockA_normal ?_ | refine thenA_ret ?_ | refine thenA_exit ?_ | refine thenA_normal ?_)
        refine ⟨rfl, i + 1, ?_, ⟨hlt, hq0⟩, by omega⟩
        refine weak_of [] ?_ ?_ rfl rfl <;> simp [lessT, lessM, lessB, AV.less]
    · have he : i = xs.length := by (have : ¬ i < xs.length := by simpa using hb); omega
      subst he
      repeat (first | refine walkL_seq ?_ | refine walkL_skip ?_ | refine walkL_block ?_ | (refine walkL_region fun K hK => ?_; simp (maxSteps := 4000000) only [go_sem]; refine hK _ ?_; clear hK K) | refine walkL_nil ?_ | refine walkL_ret ?_ | refine walkL_exit ?_ | refine blockA_here ?_ | refine blockA_other rfl ?_ | refine blockA_ret ?_ | refine blockA_normal ?_ | refine thenA_ret ?_ | refine thenA_exit ?_ | refine thenA_normal ?_)
      simp (maxSteps := 4000000) only [go_sem, hq0, List.drop_length, idxFrom]
theorem zf54 (xs : List Int) (g : Nat) (caps : List DV) (q : Int → Bool) (hq : ∀ s ∈ xs, Fn Tryz.prog g (.i s :: caps) (.bool (q s))) (hl : xs.length < 2 ^ 62) : Fn Tryz.prog 54 [.sl (intRows xs), .fn g caps] (.bool (xs.any q)) := by
  refine fn_walk 9 Tryz.call54 Tryz.func54 rfl (by decide) fun J => ?_
  simp (maxSteps := 4000000) only [go_sem, St.start, Tryz.ntmps54, Tryz.results54]
  repeat (first | refine walkL_seq ?_ | refine walkL_skip ?_ | refine walkL_block ?_ | (refine walkL_region fun K hK => ?_; simp (maxSteps := 4000000) only [go_sem]; (repeat (first | (refine ⟨_, .lent (hf := zf100 xs g caps q hq hl) (hd := rfl) (hr := rfl), ?_⟩; simp (maxSteps := 4000000) only [go_sem]) | (refine ⟨_, .given (hf := zf100 xs g caps q hq hl) (hd := rfl) (ha := rfl), ?_⟩; simp (maxSteps := 4000000) only [go_sem]))); refine hK _ ?_; clear hK K) | refine walkL_nil ?_ | refine walkL_ret ?_ | refine walkL_exit ?_ | refine blockA_here ?_ | refine blockA_other rfl ?_ | refine blockA_ret ?_ | refine blockA_normal ?_ | refine thenA_ret ?_ | refine thenA_exit ?_ | refine thenA_normal ?_)
  simp (maxSteps := 4000000) only [go_sem, idxFrom_nonneg]
structure Grid where
  p : Plant
  scen : List (List Hour)
  hours : Int
def Grid.cells (g : Grid) : List DV := [.sl (scenRows g.p.scen), .sl (sightRows g.p.seen), .sl (intRows g.p.sun), .i g.p.gain, .i g.p.start, .i g.p.stop, .i g.p.charge, .i g.p.capacity, .i g.p.reserve, .i g.p.gas, .i g.p.rate, .i g.p.units, .sl (intRows g.p.needs), .sl (scenRows g.scen), .i g.hours]
def powerB (H : Int) (l : List Int) : Bool := ((l.length : Int) == H) && !(l.any fun n => !withinB n 0 10000)
def sumI (l : List Int) : Int := l.foldl (· + ·) 0
def burnB (g : Grid) (l : List Int) : Bool := (l.all fun n => withinB n 0 g.p.rate) && (((l.length : Int) == g.hours) && decide (sumI l ≤ g.p.units))
end Go.Ab
namespace Go.Ab
open Go.RowKit Go.Proofs
set_option maxHeartbeats 8000000
set_option maxRecDepth 20000
attribute [local irreducible] WalkL Walk
structure PlantSmall (p : Plant) : Prop where
  fore : ForeSmall p.scen
  seen : p.seen.length < 2 ^ 30
  sun : p.sun.length < 2 ^ 30
  needs : p.needs.length < 2 ^ 30
def hoursOf (p : Plant) : Int := (hd0 p.scen).length
def gridOf (p : Plant) : Grid := ⟨p, scensOf (possL p.scen p.seen), hoursOf p⟩
def plantBad (p : Plant) (H : Int) : Bool :=
  !powerB H p.sun || (!powerB H p.needs || (!withinB p.gain 0 100 || (!withinB p.start 0 p.stop || (decide (p.stop > 200) ||
  (!withinB p.capacity 0 100000 || (!withinB p.charge 0 p.capacity || (!withinB p.reserve 0 p.capacity ||
  (!withinB p.gas 0 10000 || (!withinB p.rate 0 10 || !withinB p.units 0 200)))))))))
def openE (p : Plant) (burns : List (List Int)) : Int :=
  if lookF p.scen p.seen 0 true = 0 then (if plantBad p (hoursOf p) then 100 else if burns.any (fun l => !burnB (gridOf p) l) then 101 else 0) else lookF p.scen p.seen 0 true
theorem poss_get {seen : List Sight} : ∀ (F : List (List Hour)) (j i : Nat) (k : Nat) (l' : List Hour), (possFrom seen F j)[i]? = some (k, l') → ∃ l, j ≤ k ∧ F[k - j]? = some l ∧ l' = seenHours seen l ∧ agreesB seen l = true
  | [], _, _, _, _, h => by simp [possFrom] at h
  | l :: F, j, i, k, l', h => by
    rw [possFrom] at h
    have rest : ∀ i : Nat, (possFrom seen F (j + 1))[i]? = some (k, l') → ∃ l2, j ≤ k ∧ (l :: F)[k - j]? = some l2 ∧ l' = seenHours seen l2 ∧ agreesB seen l2 = true := by
      intro i h
      obtain ⟨l2, h1, h2, h3, h4⟩ := poss_get F (j + 1) i k l' h
      refine ⟨l2, by omega, ?_, h3, h4⟩
      rw [show k - j = (k - (j + 1)) + 1 by omega, List.getElem?_cons_succ]
      exact h2
    split at h
    · rename_i ha
      cases i with
      | zero => simp at h; obtain ⟨rfl, rfl⟩ := h; exact ⟨l, Nat.le_refl _, by simp, rfl, ha⟩
      | succ i => exact rest i (by simpa using h)
    · exact rest i h
end Go.Ab
namespace Go.Ab
open Go.RowKit Go.Proofs
set_option maxHeartbeats 8000000
set_option maxRecDepth 20000
attribute [local irreducible] WalkL Walk
def yieldW (p : Plant) (h : Int) (s : Sky) : Int :=
  if withinB s.wind p.start p.stop then wr (wr ((wr (getI p.sun h * wr (100 - s.rain))).tdiv 100) + wr (p.gain * s.wind)) else wr ((wr (getI p.sun h * wr (100 - s.rain))).tdiv 100)
def worstW (p : Plant) (h : Hour) : Sky := ⟨if decide (h.wind.lo ≥ p.start) && decide (h.wind.hi > p.stop) then h.wind.hi else h.wind.lo, h.rain.hi, h.temp.lo⟩
def bestW (p : Plant) (h : Hour) : Sky := ⟨if decide (p.stop < h.wind.hi) && decide (p.stop ≥ h.wind.lo) then p.stop else h.wind.hi, h.rain.lo, h.temp.lo⟩
def leastW (p : Plant) (l : List Hour) : List Sky := l.map (worstW p)
def noSky : Sky := ⟨0, 0, 0⟩
def skyAt (l : List Sky) (i : Nat) : Sky := l.getD i noSky
theorem skyAt_get {l : List Sky} {i : Nat} (h : i < l.length) : l[i]? = some (skyAt l i) := by
  unfold skyAt
  rw [List.getD, List.getElem?_eq_getElem h]
  rfl
def allOf (p : Plant) (burn : List Int) (skies : List Sky) (lv : Int) (j : Nat) : Int :=
  wr (wr (wr (lv + yieldW p j (skyAt skies j)) + wr (p.gas * getI burn j)) - getI p.needs j)
def lvAt (p : Plant) (burn : List Int) (skies : List Sky) : Nat → Int
  | 0 => p.charge
  | j + 1 => min (allOf p burn skies (lvAt p burn skies j) j) p.capacity
def lostAt (p : Plant) (burn : List Int) (skies : List Sky) (j : Nat) : Int := wr (allOf p burn skies (lvAt p burn skies j) j - lvAt p burn skies (j + 1))
def levItems (p : Plant) (burn : List Int) (skies : List Sky) : List (List DV) := (List.range skies.length).map fun j => [.i (lvAt p burn skies (j + 1)), .i (lostAt p burn skies j)]
end Go.Ab
namespace Go.Ab
open Go.RowKit Go.Proofs
set_option maxHeartbeats 8000000
set_option maxRecDepth 20000
attribute [local irreducible] WalkL Walk
def countTo (q : Nat → Bool) : Nat → Nat → Nat
  | 0, i => i
  | k + 1, i => if q i then countTo q k (i + 1) else i
def lastsW (p : Plant) (burn : List Int) (skies : List Sky) : Nat := countTo (fun j => !decide (lvAt p burn skies (j + 1) < p.reserve)) skies.length 0
structure GridOk (g : Grid) (H : Nat) : Prop where
  hours : g.hours = H
  pos : 1 ≤ H ∧ H ≤ 48
  sun : g.p.sun.length = H
  needs : g.p.needs.length = H
  scen : g.scen ≠ [] ∧ g.scen.length < 2 ^ 20
  len : ∀ l ∈ g.scen, l.length = H
  rate : 0 ≤ g.p.rate ∧ g.p.rate ≤ 10
  units : 0 ≤ g.p.units ∧ g.p.units ≤ 200
def hardStep (p : Plant) (burn : List Int) (a : List Sky × Int) (l : List Hour) : List Sky × Int :=
  if (lastsW p burn (leastW p l) : Int) < a.2 then (leastW p l, (lastsW p burn (leastW p l) : Int)) else a
def hardF (g : Grid) (burn : List Int) : List Sky × Int := g.scen.foldl (hardStep g.p burn) ([], g.hours + 1)
end Go.Ab
namespace Go.Ab
open Go.RowKit Go.Proofs
set_option maxHeartbeats 8000000
set_option maxRecDepth 20000
attribute [local irreducible] WalkL Walk
theorem intRows_set (l : List Int) (k : Nat) (x : Int) : (intRows l).set k [.i x] = intRows (l.set k x) := by simp [intRows, List.map_set]
def downF (r : Int) (burn : List Int) : Nat → Int
  | 0 => -1
  | k + 1 => if getI burn k = r then downF r burn k else k
def planF (g : Grid) : Nat → List Int → Int → Option (List Int × Int)
  | 0, _, _ => none
  | f + 1, burn, units =>
    if (hardF g burn).2 = g.hours then some (burn, units) else
    if downF g.p.rate burn ((hardF g burn).2.toNat + 1) < 0 ∨ units = g.p.units then none else
    planF g f (burn.set (downF g.p.rate burn ((hardF g burn).2.toNat + 1)).toNat (getI burn (downF g.p.rate burn ((hardF g burn).2.toNat + 1)) + 1)) (units + 1)
def planG (g : Grid) : Option (List Int × Int) := planF g (g.p.units.toNat + 1) (List.replicate g.hours.toNat 0) 0
def planV : Option (List Int × Int) → DV
  | some (b, u) => .tup [.sl (intRows b), .i u, .bool true]
  | none => .tup [.sl [], .i 0, .bool false]
def planP (p : Plant) : List Int × Int × Int :=
  if openE p [] = 0 then (match planG (gridOf p) with
    | some (b, u) => (b, u, 0)
    | none => ([], 0, 3)) else ([], 0, openE p [])
end Go.Ab
namespace Go.Ab
open Go.RowKit Go.Proofs
set_option maxHeartbeats 8000000
set_option maxRecDepth 20000
attribute [local irreducible] WalkL Walk
theorem zf101 (n lo hi : Int) : Fn Tryz.prog 101 [.i n, .i lo, .i hi] (.bool (withinB n lo hi)) := by
  refine fn_walk 15 Tryz.call101 Tryz.func101 rfl (by decide) fun J => ?_
  simp (maxSteps := 4000000) only [go_sem, St.start, Tryz.ntmps101, Tryz.results101]
  by_cases h : lo ≤ n
  · repeat (first | refine walkL_seq ?_ | refine walkL_skip ?_ | refine walkL_block ?_ | (refine walkL_region fun K hK => ?_; simp (maxSteps := 4000000) only [go_sem, h, ge_iff_le]; refine hK _ ?_; clear hK K) | refine walkL_nil ?_ | refine walkL_ret ?_ | refine walkL_exit ?_ | refine blockA_here ?_ | refine blockA_other rfl ?_ | refine blockA_ret ?_ | refine blockA_normal ?_ | refine thenA_ret ?_ | refine thenA_exit ?_ | refine thenA_normal ?_)
    simp (maxSteps := 4000000) only [go_sem, withinB, h]
  · repeat (first | refine walkL_seq ?_ | refine walkL_skip ?_ | refine walkL_block ?_ | (refine walkL_region fun K hK => ?_; simp (maxSteps := 4000000) only [go_sem, h, ge_iff_le]; refine hK _ ?_; clear hK K) | refine walkL_nil ?_ | refine walkL_ret ?_ | refine walkL_exit ?_ | refine blockA_here ?_ | refine blockA_other rfl ?_ | refine blockA_ret ?_ | refine blockA_normal ?_ | refine thenA_ret ?_ | refine thenA_exit ?_ | refine thenA_normal ?_)
    simp (maxSteps := 4000000) only [go_sem, withinB, h]
theorem zf107 (s : Span) (lo hi : Int) : Fn Tryz.prog 107 [.agg s.row, .i lo, .i hi] (.bool (orderedB s lo hi)) := by
  refine fn_walk 24 Tryz.call107 Tryz.func107 rfl (by decide) fun J => ?_
  simp (maxSteps := 4000000) only [go_sem, St.start, Tryz.ntmps107, Tryz.results107, Span.row]
  by_cases h : lo ≤ s.lo <;> by_cases h2 : s.lo ≤ s.hi
  all_goals
    repeat (first | refine walkL_seq ?_ | refine walkL_skip ?_ | refine walkL_block ?_ | (refine walkL_region fun K hK => ?_; simp (maxSteps := 4000000) only [go_sem, h, h2, ge_iff_le]; refine hK _ ?_; clear hK K) | refine walkL_nil ?_ | refine walkL_ret ?_ | refine walkL_exit ?_ | refine blockA_here ?_ | refine blockA_other rfl ?_ | refine blockA_ret ?_ | refine blockA_normal ?_ | refine thenA_ret ?_ | refine thenA_exit ?_ | refine thenA_normal ?_)
    simp (maxSteps := 4000000) only [go_sem, orderedB, h, h2]
theorem zf194 (n : Int) (s : Span) : Fn Tryz.prog 194 [.i n, .agg s.row] (.bool (withinB n s.lo s.hi)) := by
  have h97 := zf101 n s.lo s.hi
  refine fn_walk 11 Tryz.call194 Tryz.func194 rfl (by decide) fun J => ?_
  simp (maxSteps := 4000000) only [go_sem, St.start, Tryz.ntmps194, Tryz.results194, Span.row]
  repeat (first | refine walkL_seq ?_ | refine walkL_skip ?_ | refine walkL_block ?_ | (refine walkL_region fun K hK => ?_; simp (maxSteps := 4000000) only [go_sem]; (repeat (first | (refine ⟨_, .lent (hf := h97) (hd := rfl) (hr := rfl), ?_⟩; simp (maxSteps := 4000000) only [go_sem]) | (refine ⟨_, .given (hf := h97) (hd := rfl) (ha := rfl), ?_⟩; simp (maxSteps := 4000000) only [go_sem]))); refine hK _ ?_; clear hK K) | refine walkL_nil ?_ | refine walkL_ret ?_ | refine walkL_exit ?_ | refine blockA_here ?_ | refine blockA_other rfl ?_ | refine blockA_ret ?_ | refine blockA_normal ?_ | refine thenA_ret ?_ | refine thenA_exit ?_ | refine thenA_normal ?_)
  simp (maxSteps := 4000000) only [go_sem]
theorem zf48 (F : List (List Hour)) (h0 : List Hour) (h : F[0]? = some h0) : Fn Tryz.prog 48 [.agg [.sl (scenRows F)]] (.i h0.length) := by
  have g0 := scenRows_at h
  refine fn_walk 9 Tryz.call48 Tryz.func48 rfl (by decide) fun J => ?_
  simp (maxSteps := 4000000) only [go_sem, St.start, Tryz.ntmps48, Tryz.results48]
  repeat (first | refine walkL_seq ?_ | refine walkL_skip ?_ | refine walkL_block ?_ | (refine walkL_region fun K hK => ?_; simp (maxSteps := 4000000) only [go_sem, g0]; refine hK _ ?_; clear hK K) | refine walkL_nil ?_ | refine walkL_ret ?_ | refine walkL_exit ?_ | refine blockA_here ?_ | refine blockA_other rfl ?_ | refine blockA_ret ?_ | refine blockA_normal ?_ | refine thenA_ret ?_ | refine thenA_exit ?_ | refine thenA_normal ?_)
  simp (maxSteps := 4000000) only [go_sem]
theorem zf81 (F : List (List Hour)) (hs : ForeSmall F) : Fn Tryz.prog 81 [.agg [.sl (scenRows F)]] (.i (foreF F)) := by
  have h1 := hs.scen
  have h97 := zf101 F.length 1 6
  cases q1 : withinB (F.length : Int) 1 6
  · have e : foreF F = 50 := by simp [foreF, badF, q1]
    rw [e]
    rw [q1] at h97
    refine fn_walk 66 Tryz.call81 Tryz.func81 rfl (by decide) fun J => ?_
    simp (maxSteps := 4000000) only [go_sem, St.start, Tryz.ntmps81, Tryz.results81]
    repeat (first | refine walkL_true rfl ?_ | refine walkL_false rfl ?_ | refine walkL_seq ?_ | refine walkL_skip ?_ | refine walkL_block ?_ | (refine walkL_region fun K hK => ?_; simp (maxSteps := 4000000) only [go_sem]; (repeat (first | (refine ⟨_, .lent (hf := h97) (hd := rfl) (hr := rfl), ?_⟩; simp (maxSteps := 4000000) only [go_sem]) | (refine ⟨_, .given (hf := h97) (hd := rfl) (ha := rfl), ?_⟩; simp (maxSteps := 4000000) only [go_sem]))); refine hK _ ?_; clear hK K) | refine walkL_nil ?_ | refine walkL_ret ?_ | refine walkL_exit ?_ | refine blockA_here ?_ | refine blockA_other rfl ?_ | refine blockA_ret ?_ | refine blockA_normal ?_ | refine thenA_ret ?_ | refine thenA_exit ?_ | refine thenA_normal ?_)
    simp (maxSteps := 4000000) only [go_sem]
  · have hl := within_iff.1 q1
    rw [q1] at h97
    have h0 := headD_get (F := F) (by omega)
    obtain ⟨H0, hH0⟩ : ∃ H0, H0 = hd0 F := ⟨_, rfl⟩
    rw [← hH0] at h0
    have hm0 : H0 ∈ F := List.mem_of_getElem? h0
    have h71 := zf48 F H0 h0
    have h97b := zf101 H0.length 1 48
    have hsm := hs.hours H0 hm0
    have hbadx : ∀ x ∈ F, scenB H0 x = false → foreF F = 50 := fun x hx hf => by
      have : F.all (scenB H0) = false := by
        obtain ⟨i, hi⟩ := List.getElem?_of_mem hx
        exact all_of_get hi hf
      simp [foreF, badF, ← hH0, this]
    cases q2 : withinB (H0.length : Int) 1 48
    · have e : foreF F = 50 := hbadx H0 hm0 (by simp [scenB, q2])
      rw [e]
      rw [q2] at h97b
      refine fn_walk 66 Tryz.call81 Tryz.func81 rfl (by decide) fun J => ?_
      simp (maxSteps := 4000000) only [go_sem, St.start, Tryz.ntmps81, Tryz.results81]
      repeat (first | refine walkL_true rfl ?_ | refine walkL_false rfl ?_ | refine walkL_seq ?_ | refine walkL_skip ?_ | refine walkL_block ?_ | (refine walkL_region fun K hK => ?_; simp (maxSteps := 4000000) only [go_sem]; (repeat (first | (refine ⟨_, .lent (hf := h97) (hd := rfl) (hr := rfl), ?_⟩; simp (maxSteps := 4000000) only [go_sem]) | (refine ⟨_, .lent (hf := h71) (hd := rfl) (hr := rfl), ?_⟩; simp (maxSteps := 4000000) only [go_sem]) | (refine ⟨_, .lent (hf := h97b) (hd := rfl) (hr := rfl), ?_⟩; simp (maxSteps := 4000000) only [go_sem]) | (refine ⟨_, .given (hf := h97) (hd := rfl) (ha := rfl), ?_⟩; simp (maxSteps := 4000000) only [go_sem]) | (refine ⟨_, .given (hf := h71) (hd := rfl) (ha := rfl), ?_⟩; simp (maxSteps := 4000000) only [go_sem]) | (refine ⟨_, .given (hf := h97b) (hd := rfl) (ha := rfl), ?_⟩; simp (maxSteps := 4000000) only [go_sem]))); refine hK _ ?_; clear hK K) | refine walkL_nil ?_ | refine walkL_ret ?_ | refine walkL_exit ?_ | refine blockA_here ?_ | refine blockA_other rfl ?_ | refine blockA_ret ?_ | refine blockA_normal ?_ | refine thenA_ret ?_ | refine thenA_exit ?_ | refine thenA_normal ?_)
      simp (maxSteps := 4000000) only [go_sem]
    · rw [q2] at h97b
      refine fn_walk 66 Tryz.call81 Tryz.func81 rfl (by decide) fun J => ?_
      simp (maxSteps := 4000000) only [go_sem, St.start, Tryz.ntmps81, Tryz.results81]
      repeat (first | refine walkL_true rfl ?_ | refine walkL_false rfl ?_ | refine walkL_seq ?_ | refine walkL_skip ?_ | refine walkL_block ?_ | (refine walkL_region fun K hK => ?_; simp (maxSteps := 4000000) only [go_sem]; (repeat (first | (refine ⟨_, .lent (hf := h97) (hd := rfl) (hr := rfl), ?_⟩; simp (maxSteps := 4000000) only [go_sem]) | (refine ⟨_, .lent (hf := h71) (hd := rfl) (hr := rfl), ?_⟩; simp (maxSteps := 4000000) only [go_sem]) | (refine ⟨_, .lent (hf := h97b) (hd := rfl) (hr := rfl), ?_⟩; simp (maxSteps := 4000000) only [go_sem]) | (refine ⟨_, .given (hf := h97) (hd := rfl) (ha := rfl), ?_⟩; simp (maxSteps := 4000000) only [go_sem]) | (refine ⟨_, .given (hf := h71) (hd := rfl) (ha := rfl), ?_⟩; simp (maxSteps := 4000000) only [go_sem]) | (refine ⟨_, .given (hf := h97b) (hd := rfl) (ha := rfl), ?_⟩; simp (maxSteps := 4000000) only [go_sem]))); refine hK _ ?_; clear hK K) | refine walkL_nil ?_ | refine walkL_ret ?_ | refine walkL_exit ?_ | refine blockA_here ?_ | refine blockA_other rfl ?_ | refine blockA_ret ?_ | refine blockA_normal ?_ | refine thenA_ret ?_ | refine thenA_exit ?_ | refine thenA_normal ?_)
      refine walkL_loopS (fun (i : Nat) => [(3, .d (.i i))]) (fun _ => []) (fun i => i ≤ F.length ∧ (F.take i).all (scenB H0) = true) (fun i => F.length - i) 0 ?_ ⟨Nat.zero_le _, rfl⟩ ?_
      · simp (maxSteps := 4000000) only [go_sem]
        refine weak_of [] ?_ ?_ rfl rfl <;> simp [lessT, lessM, lessB, AV.less]
      · intro i ⟨hi, hall⟩
        simp (maxSteps := 4000000) only [go_sem]
        repeat (first | refine walkL_seq ?_ | refine walkL_skip ?_ | refine walkL_block ?_ | (refine walkL_region fun K hK => ?_; simp (maxSteps := 4000000) only [go_sem]; refine hK _ ?_; clear hK K) | refine walkL_nil ?_ | refine walkL_ret ?_ | refine walkL_exit ?_ | refine blockA_here ?_ | refine blockA_other rfl ?_ | refine blockA_ret ?_ | refine blockA_normal ?_ | refine thenA_ret ?_ | refine thenA_exit ?_ | refine thenA_normal ?_)
        refine walkL_cond rfl (fun hb => ?_) (fun hb => ?_)
        · have hlt : i < F.length := by simpa using hb
          have hw : IntKind.i64.wrap ((i : Int) + 1) = ((i + 1 : Nat) : Int) := by rw [wr_small (by omega)]; simp
          obtain ⟨l, hx⟩ : ∃ l, F[i]? = some l := ⟨_, List.getElem?_eq_getElem hlt⟩
          have hlm := List.mem_of_getElem? hx
          have hls := hs.hours l hlm
          have g1 := scenRows_at hx
          cases q3 : ((l.length : Int) != (H0.length : Int))
          · have hll : l.length = H0.length := by
              have : ¬ (l.length : Int) ≠ (H0.length : Int) := by simpa using q3
              omega
            have hw1 : withinB (l.length : Int) 1 48 = true := by rw [hll]; exact q2
            repeat (first | refine walkL_true rfl ?_ | refine walkL_false rfl ?_ | refine walkL_seq ?_ | refine walkL_skip ?_ | refine walkL_block ?_ | (refine walkL_region fun K hK => ?_; simp (maxSteps := 4000000) only [go_sem, g1, q3]; (repeat (first | (refine ⟨_, .lent (hf := h71) (hd := rfl) (hr := rfl), ?_⟩; simp (maxSteps := 4000000) only [go_sem, g1, q3]) | (refine ⟨_, .given (hf := h71) (hd := rfl) (ha := rfl), ?_⟩; simp (maxSteps := 4000000) only [go_sem, g1, q3]))); refine hK _ ?_; clear hK K) | refine walkL_nil ?_ | refine walkL_ret ?_ | refine walkL_exit ?_ | refine blockA_here ?_ | refine blockA_other rfl ?_ | refine blockA_ret ?_ | refine blockA_normal ?_ | refine thenA_ret ?_ | refine thenA_exit ?_ | refine thenA_normal ?_)
            refine walkL_loopS (fun (j : Nat) => [(5, .d (.i j))]) (fun _ => []) (fun j => j ≤ l.length ∧ (l.take j).all hourB = true) (fun j => l.length - j) 0 ?_ ⟨Nat.zero_le _, rfl⟩ ?_
            · simp (maxSteps := 4000000) only [go_sem]
              refine weak_of [] ?_ ?_ rfl rfl <;> simp [lessT, lessM, lessB, AV.less]
            · intro j ⟨hj, hallj⟩
              simp (maxSteps := 4000000) only [go_sem]
              repeat (first | refine walkL_seq ?_ | refine walkL_skip ?_ | refine walkL_block ?_ | (refine walkL_region fun K hK => ?_; simp (maxSteps := 4000000) only [go_sem]; refine hK _ ?_; clear hK K) | refine walkL_nil ?_ | refine walkL_ret ?_ | refine walkL_exit ?_ | refine blockA_here ?_ | refine blockA_other rfl ?_ | refine blockA_ret ?_ | refine blockA_normal ?_ | refine thenA_ret ?_ | refine thenA_exit ?_ | refine thenA_normal ?_)
              refine walkL_cond rfl (fun hb => ?_) (fun hb => ?_)
              · have hltj : j < l.length := by simpa using hb
                have hwj : IntKind.i64.wrap ((j : Int) + 1) = ((j + 1 : Nat) : Int) := by rw [wr_small (by omega)]; simp
                obtain ⟨h, hxj⟩ : ∃ h, l[j]? = some h := ⟨_, List.getElem?_eq_getElem hltj⟩
                have gj := hourRows_at hxj
                have k1 := zf107 h.wind 0 200
                have k2 := zf107 h.rain 0 100
                have k3 := zf107 h.temp (-50) 50
                rw [Span.row] at k1 k2 k3
                obtain ⟨b1, e1⟩ : ∃ b, b = orderedB h.wind 0 200 := ⟨_, rfl⟩
                obtain ⟨b2, e2⟩ : ∃ b, b = orderedB h.rain 0 100 := ⟨_, rfl⟩
                obtain ⟨b3, e3⟩ : ∃ b, b = orderedB h.temp (-50) 50 := ⟨_, rfl⟩
                have hh : hourB h = (b1 && (b2 && b3)) := by rw [hourB, e1, e2, e3]
                rw [← e1] at k1
                rw [← e2] at k2
                rw [← e3] at k3
                have hbad : hourB h = false → foreF F = 50 := fun hf => hbadx l hlm (by simp [scenB, all_of_get hxj hf])
                cases b1
                · repeat (first | refine walkL_true rfl ?_ | refine walkL_false rfl ?_ | refine walkL_seq ?_ | refine walkL_skip ?_ | refine walkL_block ?_ | (refine walkL_region fun K hK => ?_; simp (maxSteps := 4000000) only [go_sem, gj, Hour.row]; (repeat (first | (refine ⟨_, .lent (hf := k1) (hd := rfl) (hr := rfl), ?_⟩; simp (maxSteps := 4000000) only [go_sem, gj, Hour.row]) | (refine ⟨_, .given (hf := k1) (hd := rfl) (ha := rfl), ?_⟩; simp (maxSteps := 4000000) only [go_sem, gj, Hour.row]))); refine hK _ ?_; clear hK K) | refine walkL_nil ?_ | refine walkL_ret ?_ | refine walkL_exit ?_ | refine blockA_here ?_ | refine blockA_other rfl ?_ | refine blockA_ret ?_ | refine blockA_normal ?_ | refine thenA_ret ?_ | refine thenA_exit ?_ | refine thenA_normal ?_)
                  simp (maxSteps := 4000000) only [go_sem, hbad (by rw [hh]; rfl)]
                · cases b2
                  · repeat (first | refine walkL_true rfl ?_ | refine walkL_false rfl ?_ | refine walkL_seq ?_ | refine walkL_skip ?_ | refine walkL_block ?_ | (refine walkL_region fun K hK => ?_; simp (maxSteps := 4000000) only [go_sem, gj, Hour.row]; (repeat (first | (refine ⟨_, .lent (hf := k1) (hd := rfl) (hr := rfl), ?_⟩; simp (maxSteps := 4000000) only [go_sem, gj, Hour.row]) | (refine ⟨_, .lent (hf := k2) (hd := rfl) (hr := rfl), ?_⟩; simp (maxSteps := 4000000) only [go_sem, gj, Hour.row]) | (refine ⟨_, .given (hf := k1) (hd := rfl) (ha := rfl), ?_⟩; simp (maxSteps := 4000000) only [go_sem, gj, Hour.row]) | (refine ⟨_, .given (hf := k2) (hd := rfl) (ha := rfl), ?_⟩; simp (maxSteps := 4000000) only [go_sem, gj, Hour.row]))); refine hK _ ?_; clear hK K) | refine walkL_nil ?_ | refine walkL_ret ?_ | refine walkL_exit ?_ | refine blockA_here ?_ | refine blockA_other rfl ?_ | refine blockA_ret ?_ | refine blockA_normal ?_ | refine thenA_ret ?_ | refine thenA_exit ?_ | refine thenA_normal ?_)
                    simp (maxSteps := 4000000) only [go_sem, hbad (by rw [hh]; rfl)]
                  · cases b3
                    · repeat (first | refine walkL_true rfl ?_ | refine walkL_false rfl ?_ | refine walkL_seq ?_ | refine walkL_skip ?_ | refine walkL_block ?_ | (refine walkL_region fun K hK => ?_; simp (maxSteps := 4000000) only [go_sem, gj, Hour.row]; (repeat (first | (refine ⟨_, .lent (hf := k1) (hd := rfl) (hr := rfl), ?_⟩; simp (maxSteps := 4000000) only [go_sem, gj, Hour.row]) | (refine ⟨_, .lent (hf := k2) (hd := rfl) (hr := rfl), ?_⟩; simp (maxSteps := 4000000) only [go_sem, gj, Hour.row]) | (refine ⟨_, .lent (hf := k3) (hd := rfl) (hr := rfl), ?_⟩; simp (maxSteps := 4000000) only [go_sem, gj, Hour.row]) | (refine ⟨_, .given (hf := k1) (hd := rfl) (ha := rfl), ?_⟩; simp (maxSteps := 4000000) only [go_sem, gj, Hour.row]) | (refine ⟨_, .given (hf := k2) (hd := rfl) (ha := rfl), ?_⟩; simp (maxSteps := 4000000) only [go_sem, gj, Hour.row]) | (refine ⟨_, .given (hf := k3) (hd := rfl) (ha := rfl), ?_⟩; simp (maxSteps := 4000000) only [go_sem, gj, Hour.row]))); refine hK _ ?_; clear hK K) | refine walkL_nil ?_ | refine walkL_ret ?_ | refine walkL_exit ?_ | refine blockA_here ?_ | refine blockA_other rfl ?_ | refine blockA_ret ?_ | refine blockA_normal ?_ | refine thenA_ret ?_ | refine thenA_exit ?_ | refine thenA_normal ?_)
                      simp (maxSteps := 4000000) only [go_sem, hbad (by rw [hh]; rfl)]
                    · repeat (first | refine walkL_true rfl ?_ | refine walkL_false rfl ?_ | refine walkL_seq ?_ | refine walkL_skip ?_ | refine walkL_block ?_ | (refine walkL_region fun K hK => ?_; simp (maxSteps := 4000000) only [go_sem, gj, Hour.row, hwj]; (repeat (first | (refine ⟨_, .lent (hf := k1) (hd := rfl) (hr := rfl), ?_⟩; simp (maxSteps := 4000000) only [go_sem, gj, Hour.row, hwj]) | (refine ⟨_, .lent (hf := k2) (hd := rfl) (hr := rfl), ?_⟩; simp (maxSteps := 4000000) only [go_sem, gj, Hour.row, hwj]) | (refine ⟨_, .lent (hf := k3) (hd := rfl) (hr := rfl), ?_⟩; simp (maxSteps := 4000000) only [go_sem, gj, Hour.row, hwj]) | (refine ⟨_, .given (hf := k1) (hd := rfl) (ha := rfl), ?_⟩; simp (maxSteps := 4000000) only [go_sem, gj, Hour.row, hwj]) | (refine ⟨_, .given (hf := k2) (hd := rfl) (ha := rfl), ?_⟩; simp (maxSteps := 4000000) only [go_sem, gj, Hour.row, hwj]) | (refine ⟨_, .given (hf := k3) (hd := rfl) (ha := rfl), ?_⟩; simp (maxSteps := 4000000) only [go_sem, gj, Hour.row, hwj]))); refine hK _ ?_; clear hK K) | refine walkL_nil ?_ | refine walkL_ret ?_ | refine walkL_exit ?_ | refine blockA_here ?_ | refine blockA_other rfl ?_ | refine blockA_ret ?_ | refine blockA_normal ?_ | refine thenA_ret ?_ | refine thenA_exit ?_ | refine thenA_normal ?_)
                      refine ⟨rfl, j + 1, ?_, ⟨hltj, all_take_succ hxj hallj (by rw [hh]; rfl)⟩, by omega⟩
                      refine weak_of [] ?_ ?_ rfl rfl <;> simp [lessT, lessM, lessB, AV.less]
              · have he : j = l.length := by (have : ¬ j < l.length := by simpa using hb); omega
                subst he
                rw [List.take_length] at hallj
                repeat (first | refine walkL_seq ?_ | refine walkL_skip ?_ | refine walkL_block ?_ | (refine walkL_region fun K hK => ?_; simp (maxSteps := 4000000) only [go_sem, hw]; refine hK _ ?_; clear hK K) | refine walkL_nil ?_ | refine walkL_ret ?_ | refine walkL_exit ?_ | refine blockA_here ?_ | refine blockA_other rfl ?_ | refine blockA_ret ?_ | refine blockA_normal ?_ | refine thenA_ret ?_ | refine thenA_exit ?_ | refine thenA_normal ?_)
                refine ⟨rfl, i + 1, ?_, ⟨hlt, all_take_succ hx hall (by rw [scenB, hw1, hallj]; simp [hll])⟩, by omega⟩
                refine weak_of [] ?_ ?_ rfl rfl <;> simp [lessT, lessM, lessB, AV.less]
          · have hne : ¬ (l.length : Int) = (H0.length : Int) := by simpa using q3
            have hf : scenB H0 l = false := by
              have : ((l.length : Int) == (H0.length : Int)) = false := by simpa using hne
              unfold scenB
              rw [this]
              simp
            repeat (first | refine walkL_true rfl ?_ | refine walkL_false rfl ?_ | refine walkL_seq ?_ | refine walkL_skip ?_ | refine walkL_block ?_ | (refine walkL_region fun K hK => ?_; simp (maxSteps := 4000000) only [go_sem, g1, q3]; (repeat (first | (refine ⟨_, .lent (hf := h71) (hd := rfl) (hr := rfl), ?_⟩; simp (maxSteps := 4000000) only [go_sem, g1, q3]) | (refine ⟨_, .given (hf := h71) (hd := rfl) (ha := rfl), ?_⟩; simp (maxSteps := 4000000) only [go_sem, g1, q3]))); refine hK _ ?_; clear hK K) | refine walkL_nil ?_ | refine walkL_ret ?_ | refine walkL_exit ?_ | refine blockA_here ?_ | refine blockA_other rfl ?_ | refine blockA_ret ?_ | refine blockA_normal ?_ | refine thenA_ret ?_ | refine thenA_exit ?_ | refine thenA_normal ?_)
            simp (maxSteps := 4000000) only [go_sem, hbadx l hlm hf]
        · have he : i = F.length := by (have : ¬ i < F.length := by simpa using hb); omega
          subst he
          rw [List.take_length] at hall
          repeat (first | refine walkL_seq ?_ | refine walkL_skip ?_ | refine walkL_block ?_ | (refine walkL_region fun K hK => ?_; simp (maxSteps := 4000000) only [go_sem]; refine hK _ ?_; clear hK K) | refine walkL_nil ?_ | refine walkL_ret ?_ | refine walkL_exit ?_ | refine blockA_here ?_ | refine blockA_other rfl ?_ | refine blockA_ret ?_ | refine blockA_normal ?_ | refine thenA_ret ?_ | refine thenA_exit ?_ | refine thenA_normal ?_)
          simp (maxSteps := 4000000) only [go_sem, foreF, badF, q1, ← hH0, hall]
theorem point_ok (s : Sky) : hourB (pointH s) = (withinB s.wind 0 200 && (withinB s.rain 0 100 && withinB s.temp (-50) 50)) := by
  have e : ∀ n lo hi : Int, orderedB ⟨n, n⟩ lo hi = withinB n lo hi := fun n lo hi => by
    unfold orderedB withinB
    dsimp only
    rw [decide_eq_true (Int.le_refl n), Bool.true_and]
  rw [hourB, pointH, e, e, e]
theorem zf61 (F : List (List Hour)) (h0 : List Hour) (x : Int) (h : F[0]? = some h0) (hl : h0.length < 2 ^ 30) : Fn Tryz.prog 61 [.agg [.sl (scenRows F)], .i x] (.bool (withinB x 0 ((h0.length : Int) - 1))) := by
  have h71 := zf48 F h0 h
  have h97 := zf101 x 0 ((h0.length : Int) - 1)
  have hw : IntKind.i64.wrap ((h0.length : Int) - 1) = (h0.length : Int) - 1 := wr_small (by omega)
  refine fn_walk 10 Tryz.call61 Tryz.func61 rfl (by decide) fun J => ?_
  simp (maxSteps := 4000000) only [go_sem, St.start, Tryz.ntmps61, Tryz.results61]
  repeat (first | refine walkL_seq ?_ | refine walkL_skip ?_ | refine walkL_block ?_ | (refine walkL_region fun K hK => ?_; simp (maxSteps := 4000000) only [go_sem, hw]; (repeat (first | (refine ⟨_, .lent (hf := h71) (hd := rfl) (hr := rfl), ?_⟩; simp (maxSteps := 4000000) only [go_sem, hw]) | (refine ⟨_, .lent (hf := h97) (hd := rfl) (hr := rfl), ?_⟩; simp (maxSteps := 4000000) only [go_sem, hw]) | (refine ⟨_, .given (hf := h71) (hd := rfl) (ha := rfl), ?_⟩; simp (maxSteps := 4000000) only [go_sem, hw]) | (refine ⟨_, .given (hf := h97) (hd := rfl) (ha := rfl), ?_⟩; simp (maxSteps := 4000000) only [go_sem, hw]))); refine hK _ ?_; clear hK K) | refine walkL_nil ?_ | refine walkL_ret ?_ | refine walkL_exit ?_ | refine blockA_here ?_ | refine blockA_other rfl ?_ | refine blockA_ret ?_ | refine blockA_normal ?_ | refine thenA_ret ?_ | refine thenA_exit ?_ | refine thenA_normal ?_)
  simp (maxSteps := 4000000) only [go_sem]
def seenF (F : List (List Hour)) (seen : List Sight) : Int := if badF F then 50 else if sightsB (hd0 F).length seen then 0 else 51
theorem zf105 (F : List (List Hour)) (seen : List Sight) (hs : ForeSmall F) (hsl : seen.length < 2 ^ 30) : Fn Tryz.prog 105 [.agg [.sl (scenRows F)], .sl (sightRows seen)] (.i (seenF F seen)) := by
  have h86 := zf81 F hs
  cases hb : badF F
  · have hg := fore_iff.1 hb
    have hF := hg.scen
    have hH := hg.hours
    have e86 : foreF F = 0 := by simp [foreF, hb]
    rw [e86] at h86
    have h0 := headD_get (F := F) (by omega)
    obtain ⟨H0, hH0⟩ : ∃ H0, H0 = hd0 F := ⟨_, rfl⟩
    rw [← hH0] at h0 hH
    have e0 : seenF F seen = if sightsB (H0.length : Int) seen then 0 else 51 := by simp [seenF, hb, ← hH0]
    rw [e0]
    cases hlen : decide ((seen.length : Int) > 20)
    · have hlen' := of_decide_eq_false hlen
      refine fn_walk 67 Tryz.call105 Tryz.func105 rfl (by decide) fun J => ?_
      simp (maxSteps := 4000000) only [go_sem, St.start, Tryz.ntmps105, Tryz.results105]
      repeat (first | refine walkL_true rfl ?_ | refine walkL_false rfl ?_ | refine walkL_seq ?_ | refine walkL_skip ?_ | refine walkL_block ?_ | (refine walkL_region fun K hK => ?_; simp (maxSteps := 4000000) only [go_sem, hlen]; (repeat (first | (refine ⟨_, .lent (hf := h86) (hd := rfl) (hr := rfl), ?_⟩; simp (maxSteps := 4000000) only [go_sem, hlen]) | (refine ⟨_, .given (hf := h86) (hd := rfl) (ha := rfl), ?_⟩; simp (maxSteps := 4000000) only [go_sem, hlen]))); refine hK _ ?_; clear hK K) | refine walkL_nil ?_ | refine walkL_ret ?_ | refine walkL_exit ?_ | refine blockA_here ?_ | refine blockA_other rfl ?_ | refine blockA_ret ?_ | refine blockA_normal ?_ | refine thenA_ret ?_ | refine thenA_exit ?_ | refine thenA_normal ?_)
      refine walkL_loopS (fun (i : Nat) => [(5, .d (.i i))]) (fun _ => []) (fun i => i ≤ seen.length ∧ (seen.take i).all (sightOk H0.length) = true ∧ ((seen.take i).map (·.hour)).Nodup) (fun i => seen.length - i) 0 ?_ ⟨Nat.zero_le _, rfl, by simp⟩ ?_
      · simp (maxSteps := 4000000) only [go_sem]
        refine weak_of [] ?_ ?_ rfl rfl <;> simp [lessT, lessM, lessB, AV.less]
      · intro i ⟨hi, hall, hnd⟩
        simp (maxSteps := 4000000) only [go_sem]
        repeat (first | refine walkL_seq ?_ | refine walkL_skip ?_ | refine walkL_block ?_ | (refine walkL_region fun K hK => ?_; simp (maxSteps := 4000000) only [go_sem]; refine hK _ ?_; clear hK K) | refine walkL_nil ?_ | refine walkL_ret ?_ | refine walkL_exit ?_ | refine blockA_here ?_ | refine blockA_other rfl ?_ | refine blockA_ret ?_ | refine blockA_normal ?_ | refine thenA_ret ?_ | refine thenA_exit ?_ | refine thenA_normal ?_)
        refine walkL_cond rfl (fun hb => ?_) (fun hb => ?_)
        · have hlt : i < seen.length := by simpa using hb
          have hw : IntKind.i64.wrap ((i : Int) + 1) = ((i + 1 : Nat) : Int) := by rw [wr_small (by omega)]; simp
          obtain ⟨s, hx⟩ : ∃ s, seen[i]? = some s := ⟨_, List.getElem?_eq_getElem hlt⟩
          have g1 := sightRows_at hx
          have htk : seen.take (i + 1) = seen.take i ++ [s] := by rw [List.take_add_one, hx]; rfl
          have k0 := zf61 F H0 s.hour h0 (by omega)
          have k1 := zf101 s.sky.wind 0 200
          have k2 := zf101 s.sky.rain 0 100
          have k3 := zf101 s.sky.temp (-50) 50
          obtain ⟨b0, e0⟩ : ∃ b, b = withinB s.hour 0 ((H0.length : Int) - 1) := ⟨_, rfl⟩
          obtain ⟨b1, e1⟩ : ∃ b, b = withinB s.sky.wind 0 200 := ⟨_, rfl⟩
          obtain ⟨b2, e2⟩ : ∃ b, b = withinB s.sky.rain 0 100 := ⟨_, rfl⟩
          obtain ⟨b3, e3⟩ : ∃ b, b = withinB s.sky.temp (-50) 50 := ⟨_, rfl⟩
          have hh : sightOk H0.length s = (b0 && (b1 && (b2 && b3))) := by rw [sightOk, point_ok, e0, e1, e2, e3]
          rw [← e0] at k0
          rw [← e1] at k1
          rw [← e2] at k2
          rw [← e3] at k3
          have hbad : sightOk H0.length s = false → sightsB (H0.length : Int) seen = false := fun hf => by rw [sightsB, all_of_get hx hf]; rfl
          cases b0
          · repeat (first | refine walkL_true rfl ?_ | refine walkL_false rfl ?_ | refine walkL_seq ?_ | refine walkL_skip ?_ | refine walkL_block ?_ | (refine walkL_region fun K hK => ?_; simp (maxSteps := 4000000) only [go_sem, g1, Sight.row]; (repeat (first | (refine ⟨_, .lent (hf := k0) (hd := rfl) (hr := rfl), ?_⟩; simp (maxSteps := 4000000) only [go_sem, g1, Sight.row]) | (refine ⟨_, .given (hf := k0) (hd := rfl) (ha := rfl), ?_⟩; simp (maxSteps := 4000000) only [go_sem, g1, Sight.row]))); refine hK _ ?_; clear hK K) | (refine walkL_drawn (by kernel_rfl) (by kernel_rfl) fun K hK => ?_; simp (maxSteps := 4000000) only [go_sem, g1, Sight.row]; (repeat (first | (refine ⟨_, .fn (hf := k0) (hd := rfl) (hr := .inl rfl), ?_⟩; simp (maxSteps := 4000000) only [go_sem, g1, Sight.row]))); refine ⟨by kernel_rfl, hK _ ?_⟩; clear hK K) | refine walkL_nil ?_ | refine walkL_ret ?_ | refine walkL_exit ?_ | refine blockA_here ?_ | refine blockA_other rfl ?_ | refine blockA_ret ?_ | refine blockA_normal ?_ | refine thenA_ret ?_ | refine thenA_exit ?_ | refine thenA_normal ?_)
            simp (maxSteps := 4000000) only [go_sem, hbad (by rw [hh]; rfl)]
          cases b1
          · repeat (first | refine walkL_true rfl ?_ | refine walkL_false rfl ?_ | refine walkL_seq ?_ | refine walkL_skip ?_ | refine walkL_block ?_ | (refine walkL_region fun K hK => ?_; simp (maxSteps := 4000000) only [go_sem, g1, Sight.row]; (repeat (first | (refine ⟨_, .lent (hf := k0) (hd := rfl) (hr := rfl), ?_⟩; simp (maxSteps := 4000000) only [go_sem, g1, Sight.row]) | (refine ⟨_, .lent (hf := k1) (hd := rfl) (hr := rfl), ?_⟩; simp (maxSteps := 4000000) only [go_sem, g1, Sight.row]) | (refine ⟨_, .given (hf := k0) (hd := rfl) (ha := rfl), ?_⟩; simp (maxSteps := 4000000) only [go_sem, g1, Sight.row]) | (refine ⟨_, .given (hf := k1) (hd := rfl) (ha := rfl), ?_⟩; simp (maxSteps := 4000000) only [go_sem, g1, Sight.row]))); refine hK _ ?_; clear hK K) | (refine walkL_drawn (by kernel_rfl) (by kernel_rfl) fun K hK => ?_; simp (maxSteps := 4000000) only [go_sem, g1, Sight.row]; (repeat (first | (refine ⟨_, .fn (hf := k0) (hd := rfl) (hr := .inl rfl), ?_⟩; simp (maxSteps := 4000000) only [go_sem, g1, Sight.row]) | (refine ⟨_, .fn (hf := k1) (hd := rfl) (hr := .inl rfl), ?_⟩; simp (maxSteps := 4000000) only [go_sem, g1, Sight.row]))); refine ⟨by kernel_rfl, hK _ ?_⟩; clear hK K) | refine walkL_nil ?_ | refine walkL_ret ?_ | refine walkL_exit ?_ | refine blockA_here ?_ | refine blockA_other rfl ?_ | refine blockA_ret ?_ | refine blockA_normal ?_ | refine thenA_ret ?_ | refine thenA_exit ?_ | refine thenA_normal ?_)
            simp (maxSteps := 4000000) only [go_sem, hbad (by rw [hh]; rfl)]
          cases b2
          · repeat (first | refine walkL_true rfl ?_ | refine walkL_false rfl ?_ | refine walkL_seq ?_ | refine walkL_skip ?_ | refine walkL_block ?_ | (refine walkL_region fun K hK => ?_; simp (maxSteps := 4000000) only [go_sem, g1, Sight.row]; (repeat (first | (refine ⟨_, .lent (hf := k0) (hd := rfl) (hr := rfl), ?_⟩; simp (maxSteps := 4000000) only [go_sem, g1, Sight.row]) | (refine ⟨_, .lent (hf := k1) (hd := rfl) (hr := rfl), ?_⟩; simp (maxSteps := 4000000) only [go_sem, g1, Sight.row]) | (refine ⟨_, .lent (hf := k2) (hd := rfl) (hr := rfl), ?_⟩; simp (maxSteps := 4000000) only [go_sem, g1, Sight.row]) | (refine ⟨_, .given (hf := k0) (hd := rfl) (ha := rfl), ?_⟩; simp (maxSteps := 4000000) only [go_sem, g1, Sight.row]) | (refine ⟨_, .given (hf := k1) (hd := rfl) (ha := rfl), ?_⟩; simp (maxSteps := 4000000) only [go_sem, g1, Sight.row]) | (refine ⟨_, .given (hf := k2) (hd := rfl) (ha := rfl), ?_⟩; simp (maxSteps := 4000000) only [go_sem, g1, Sight.row]))); refine hK _ ?_; clear hK K) | (refine walkL_drawn (by kernel_rfl) (by kernel_rfl) fun K hK => ?_; simp (maxSteps := 4000000) only [go_sem, g1, Sight.row]; (repeat (first | (refine ⟨_, .fn (hf := k0) (hd := rfl) (hr := .inl rfl), ?_⟩; simp (maxSteps := 4000000) only [go_sem, g1, Sight.row]) | (refine ⟨_, .fn (hf := k1) (hd := rfl) (hr := .inl rfl), ?_⟩; simp (maxSteps := 4000000) only [go_sem, g1, Sight.row]) | (refine ⟨_, .fn (hf := k2) (hd := rfl) (hr := .inl rfl), ?_⟩; simp (maxSteps := 4000000) only [go_sem, g1, Sight.row]))); refine ⟨by kernel_rfl, hK _ ?_⟩; clear hK K) | refine walkL_nil ?_ | refine walkL_ret ?_ | refine walkL_exit ?_ | refine blockA_here ?_ | refine blockA_other rfl ?_ | refine blockA_ret ?_ | refine blockA_normal ?_ | refine thenA_ret ?_ | refine thenA_exit ?_ | refine thenA_normal ?_)
            simp (maxSteps := 4000000) only [go_sem, hbad (by rw [hh]; rfl)]
          cases b3
          · repeat (first | refine walkL_true rfl ?_ | refine walkL_false rfl ?_ | refine walkL_seq ?_ | refine walkL_skip ?_ | refine walkL_block ?_ | (refine walkL_region fun K hK => ?_; simp (maxSteps := 4000000) only [go_sem, g1, Sight.row]; (repeat (first | (refine ⟨_, .lent (hf := k0) (hd := rfl) (hr := rfl), ?_⟩; simp (maxSteps := 4000000) only [go_sem, g1, Sight.row]) | (refine ⟨_, .lent (hf := k1) (hd := rfl) (hr := rfl), ?_⟩; simp (maxSteps := 4000000) only [go_sem, g1, Sight.row]) | (refine ⟨_, .lent (hf := k2) (hd := rfl) (hr := rfl), ?_⟩; simp (maxSteps := 4000000) only [go_sem, g1, Sight.row]) | (refine ⟨_, .lent (hf := k3) (hd := rfl) (hr := rfl), ?_⟩; simp (maxSteps := 4000000) only [go_sem, g1, Sight.row]) | (refine ⟨_, .given (hf := k0) (hd := rfl) (ha := rfl), ?_⟩; simp (maxSteps := 4000000) only [go_sem, g1, Sight.row]) | (refine ⟨_, .given (hf := k1) (hd := rfl) (ha := rfl), ?_⟩; simp (maxSteps := 4000000) only [go_sem, g1, Sight.row]) | (refine ⟨_, .given (hf := k2) (hd := rfl) (ha := rfl), ?_⟩; simp (maxSteps := 4000000) only [go_sem, g1, Sight.row]) | (refine ⟨_, .given (hf := k3) (hd := rfl) (ha := rfl), ?_⟩; simp (maxSteps := 4000000) only [go_sem, g1, Sight.row]))); refine hK _ ?_; clear hK K) | (refine walkL_drawn (by kernel_rfl) (by kernel_rfl) fun K hK => ?_; simp (maxSteps := 4000000) only [go_sem, g1, Sight.row]; (repeat (first | (refine ⟨_, .fn (hf := k0) (hd := rfl) (hr := .inl rfl), ?_⟩; simp (maxSteps := 4000000) only [go_sem, g1, Sight.row]) | (refine ⟨_, .fn (hf := k1) (hd := rfl) (hr := .inl rfl), ?_⟩; simp (maxSteps := 4000000) only [go_sem, g1, Sight.row]) | (refine ⟨_, .fn (hf := k2) (hd := rfl) (hr := .inl rfl), ?_⟩; simp (maxSteps := 4000000) only [go_sem, g1, Sight.row]) | (refine ⟨_, .fn (hf := k3) (hd := rfl) (hr := .inl rfl), ?_⟩; simp (maxSteps := 4000000) only [go_sem, g1, Sight.row]))); refine ⟨by kernel_rfl, hK _ ?_⟩; clear hK K) | refine walkL_nil ?_ | refine walkL_ret ?_ | refine walkL_exit ?_ | refine blockA_here ?_ | refine blockA_other rfl ?_ | refine blockA_ret ?_ | refine blockA_normal ?_ | refine thenA_ret ?_ | refine thenA_exit ?_ | refine thenA_normal ?_)
            simp (maxSteps := 4000000) only [go_sem, hbad (by rw [hh]; rfl)]
          repeat (first | refine walkL_true rfl ?_ | refine walkL_false rfl ?_ | refine walkL_seq ?_ | refine walkL_skip ?_ | refine walkL_block ?_ | (refine walkL_region fun K hK => ?_; simp (maxSteps := 4000000) only [go_sem, g1, Sight.row]; (repeat (first | (refine ⟨_, .lent (hf := k0) (hd := rfl) (hr := rfl), ?_⟩; simp (maxSteps := 4000000) only [go_sem, g1, Sight.row]) | (refine ⟨_, .lent (hf := k1) (hd := rfl) (hr := rfl), ?_⟩; simp (maxSteps := 4000000) only [go_sem, g1, Sight.row]) | (refine ⟨_, .lent (hf := k2) (hd := rfl) (hr := rfl), ?_⟩; simp (maxSteps := 4000000) only [go_sem, g1, Sight.row]) | (refine ⟨_, .lent (hf := k3) (hd := rfl) (hr := rfl), ?_⟩; simp (maxSteps := 4000000) only [go_sem, g1, Sight.row]) | (refine ⟨_, .given (hf := k0) (hd := rfl) (ha := rfl), ?_⟩; simp (maxSteps := 4000000) only [go_sem, g1, Sight.row]) | (refine ⟨_, .given (hf := k1) (hd := rfl) (ha := rfl), ?_⟩; simp (maxSteps := 4000000) only [go_sem, g1, Sight.row]) | (refine ⟨_, .given (hf := k2) (hd := rfl) (ha := rfl), ?_⟩; simp (maxSteps := 4000000) only [go_sem, g1, Sight.row]) | (refine ⟨_, .given (hf := k3) (hd := rfl) (ha := rfl), ?_⟩; simp (maxSteps := 4000000) only [go_sem, g1, Sight.row]))); refine hK _ ?_; clear hK K) | (refine walkL_drawn (by kernel_rfl) (by kernel_rfl) fun K hK => ?_; simp (maxSteps := 4000000) only [go_sem, g1, Sight.row]; (repeat (first | (refine ⟨_, .fn (hf := k0) (hd := rfl) (hr := .inl rfl), ?_⟩; simp (maxSteps := 4000000) only [go_sem, g1, Sight.row]) | (refine ⟨_, .fn (hf := k1) (hd := rfl) (hr := .inl rfl), ?_⟩; simp (maxSteps := 4000000) only [go_sem, g1, Sight.row]) | (refine ⟨_, .fn (hf := k2) (hd := rfl) (hr := .inl rfl), ?_⟩; simp (maxSteps := 4000000) only [go_sem, g1, Sight.row]) | (refine ⟨_, .fn (hf := k3) (hd := rfl) (hr := .inl rfl), ?_⟩; simp (maxSteps := 4000000) only [go_sem, g1, Sight.row]))); refine ⟨by kernel_rfl, hK _ ?_⟩; clear hK K) | refine walkL_nil ?_ | refine walkL_ret ?_ | refine walkL_exit ?_ | refine blockA_here ?_ | refine blockA_other rfl ?_ | refine blockA_ret ?_ | refine blockA_normal ?_ | refine thenA_ret ?_ | refine thenA_exit ?_ | refine thenA_normal ?_)
          refine walkL_loopS (fun (j : Nat) => [(7, .d (.i j))]) (fun _ => []) (fun j => j ≤ i ∧ ∀ x ∈ seen.take j, x.hour ≠ s.hour) (fun j => i - j) 0 ?_ ⟨Nat.zero_le _, by simp⟩ ?_
          · simp (maxSteps := 4000000) only [go_sem]
            refine weak_of [] ?_ ?_ rfl rfl <;> simp [lessT, lessM, lessB, AV.less]
          · intro j ⟨hj, hno⟩
            simp (maxSteps := 4000000) only [go_sem]
            repeat (first | refine walkL_seq ?_ | refine walkL_skip ?_ | refine walkL_block ?_ | (refine walkL_region fun K hK => ?_; simp (maxSteps := 4000000) only [go_sem]; refine hK _ ?_; clear hK K) | refine walkL_nil ?_ | refine walkL_ret ?_ | refine walkL_exit ?_ | refine blockA_here ?_ | refine blockA_other rfl ?_ | refine blockA_ret ?_ | refine blockA_normal ?_ | refine thenA_ret ?_ | refine thenA_exit ?_ | refine thenA_normal ?_)
            refine walkL_cond rfl (fun hb => ?_) (fun hb => ?_)
            · have hltj : j < i := by simpa using hb
              have hwj : IntKind.i64.wrap ((j : Int) + 1) = ((j + 1 : Nat) : Int) := by rw [wr_small (by omega)]; simp
              obtain ⟨y, hy⟩ : ∃ y, seen[j]? = some y := ⟨_, List.getElem?_eq_getElem (by omega)⟩
              have gj := sightRows_at hy
              cases hq : (y.hour == s.hour)
              · have hne : y.hour ≠ s.hour := by simpa using hq
                repeat (first | refine walkL_true rfl ?_ | refine walkL_false rfl ?_ | refine walkL_seq ?_ | refine walkL_skip ?_ | refine walkL_block ?_ | (refine walkL_region fun K hK => ?_; simp (maxSteps := 4000000) only [go_sem, gj, g1, Sight.row, hq, hwj]; refine hK _ ?_; clear hK K) | (refine walkL_drawn (by kernel_rfl) (by kernel_rfl) fun K hK => ?_; simp (maxSteps := 4000000) only [go_sem, gj, g1, Sight.row, hq, hwj]; refine ⟨by kernel_rfl, hK _ ?_⟩; clear hK K) | refine walkL_nil ?_ | refine walkL_ret ?_ | refine walkL_exit ?_ | refine blockA_here ?_ | refine blockA_other rfl ?_ | refine blockA_ret ?_ | refine blockA_normal ?_ | refine thenA_ret ?_ | refine thenA_exit ?_ | refine thenA_normal ?_)
                refine ⟨rfl, j + 1, ?_, ⟨hltj, fun x hx2 => ?_⟩, by omega⟩
                · refine weak_of [] ?_ ?_ rfl rfl <;> simp [lessT, lessM, lessB, AV.less]
                · rw [List.take_add_one, hy, List.mem_append] at hx2
                  rcases hx2 with hx2 | hx2
                  · exact hno x hx2
                  · have : x = y := by simpa using hx2
                    rw [this]; exact hne
              · have heq : y.hour = s.hour := by simpa using hq
                have hF : sightsB (H0.length : Int) seen = false := by
                  have : ¬ (seen.map (·.hour)).Nodup := fun hn => by
                    have h3 : (((seen.take (i + 1)).map (·.hour))).Nodup := (List.Sublist.map _ (List.take_sublist _ _)).nodup hn
                    rw [htk, List.map_append, List.nodup_append] at h3
                    refine h3.2.2 y.hour (List.mem_map.2 ⟨y, ?_, rfl⟩) s.hour (by simp) heq
                    exact List.mem_of_getElem? (i := j) (by rw [List.getElem?_take, if_pos hltj]; exact hy)
                  simp [sightsB, this]
                repeat (first | refine walkL_true rfl ?_ | refine walkL_false rfl ?_ | refine walkL_seq ?_ | refine walkL_skip ?_ | refine walkL_block ?_ | (refine walkL_region fun K hK => ?_; simp (maxSteps := 4000000) only [go_sem, gj, g1, Sight.row, hq]; refine hK _ ?_; clear hK K) | (refine walkL_drawn (by kernel_rfl) (by kernel_rfl) fun K hK => ?_; simp (maxSteps := 4000000) only [go_sem, gj, g1, Sight.row, hq]; refine ⟨by kernel_rfl, hK _ ?_⟩; clear hK K) | refine walkL_nil ?_ | refine walkL_ret ?_ | refine walkL_exit ?_ | refine blockA_here ?_ | refine blockA_other rfl ?_ | refine blockA_ret ?_ | refine blockA_normal ?_ | refine thenA_ret ?_ | refine thenA_exit ?_ | refine thenA_normal ?_)
                simp (maxSteps := 4000000) only [go_sem, hF]
            · have he : j = i := by (have : ¬ j < i := by simpa using hb); omega
              subst he
              repeat (first | refine walkL_seq ?_ | refine walkL_skip ?_ | refine walkL_block ?_ | (refine walkL_region fun K hK => ?_; simp (maxSteps := 4000000) only [go_sem, hw]; refine hK _ ?_; clear hK K) | refine walkL_nil ?_ | refine walkL_ret ?_ | refine walkL_exit ?_ | refine blockA_here ?_ | refine blockA_other rfl ?_ | refine blockA_ret ?_ | refine blockA_normal ?_ | refine thenA_ret ?_ | refine thenA_exit ?_ | refine thenA_normal ?_)
              refine ⟨rfl, j + 1, ?_, ⟨hlt, all_take_succ hx hall (by rw [hh]; rfl), ?_⟩, by omega⟩
              · refine weak_of [] ?_ ?_ rfl rfl <;> simp [lessT, lessM, lessB, AV.less]
              · rw [htk, List.map_append, List.nodup_append]
                refine ⟨hnd, by simp, fun a ha b hb e => ?_⟩
                obtain ⟨z, hz, rfl⟩ := List.mem_map.1 ha
                have : b = s.hour := by simpa using hb
                exact hno z hz (by rw [e, this])
        · have he : i = seen.length := by (have : ¬ i < seen.length := by simpa using hb); omega
          subst he
          rw [List.take_length] at hall hnd
          have hF : sightsB (H0.length : Int) seen = true := by
            simp only [sightsB, hall, Bool.true_and, Bool.and_eq_true, decide_eq_true_eq]
            exact ⟨hnd, by omega⟩
          repeat (first | refine walkL_seq ?_ | refine walkL_skip ?_ | refine walkL_block ?_ | (refine walkL_region fun K hK => ?_; simp (maxSteps := 4000000) only [go_sem]; refine hK _ ?_; clear hK K) | refine walkL_nil ?_ | refine walkL_ret ?_ | refine walkL_exit ?_ | refine blockA_here ?_ | refine blockA_other rfl ?_ | refine blockA_ret ?_ | refine blockA_normal ?_ | refine thenA_ret ?_ | refine thenA_exit ?_ | refine thenA_normal ?_)
          simp (maxSteps := 4000000) only [go_sem, hF, if_true]
    · have hlen' := of_decide_eq_true hlen
      have hF : sightsB (H0.length : Int) seen = false := by
        have : decide ((seen.length : Int) ≤ 20) = false := by simp; omega
        simp only [sightsB, this, Bool.and_false]
      rw [hF, if_neg (by decide)]
      refine fn_walk 67 Tryz.call105 Tryz.func105 rfl (by decide) fun J => ?_
      simp (maxSteps := 4000000) only [go_sem, St.start, Tryz.ntmps105, Tryz.results105]
      repeat (first | refine walkL_true rfl ?_ | refine walkL_false rfl ?_ | refine walkL_seq ?_ | refine walkL_skip ?_ | refine walkL_block ?_ | (refine walkL_region fun K hK => ?_; simp (maxSteps := 4000000) only [go_sem, hlen]; (repeat (first | (refine ⟨_, .lent (hf := h86) (hd := rfl) (hr := rfl), ?_⟩; simp (maxSteps := 4000000) only [go_sem, hlen]) | (refine ⟨_, .given (hf := h86) (hd := rfl) (ha := rfl), ?_⟩; simp (maxSteps := 4000000) only [go_sem, hlen]))); refine hK _ ?_; clear hK K) | refine walkL_nil ?_ | refine walkL_ret ?_ | refine walkL_exit ?_ | refine blockA_here ?_ | refine blockA_other rfl ?_ | refine blockA_ret ?_ | refine blockA_normal ?_ | refine thenA_ret ?_ | refine thenA_exit ?_ | refine thenA_normal ?_)
      simp (maxSteps := 4000000) only [go_sem]
  · have e86 : foreF F = 50 := by simp [foreF, hb]
    have e0 : seenF F seen = 50 := by simp [seenF, hb]
    rw [e86] at h86
    rw [e0]
    refine fn_walk 67 Tryz.call105 Tryz.func105 rfl (by decide) fun J => ?_
    simp (maxSteps := 4000000) only [go_sem, St.start, Tryz.ntmps105, Tryz.results105]
    repeat (first | refine walkL_true rfl ?_ | refine walkL_false rfl ?_ | refine walkL_seq ?_ | refine walkL_skip ?_ | refine walkL_block ?_ | (refine walkL_region fun K hK => ?_; simp (maxSteps := 4000000) only [go_sem]; (repeat (first | (refine ⟨_, .lent (hf := h86) (hd := rfl) (hr := rfl), ?_⟩; simp (maxSteps := 4000000) only [go_sem]) | (refine ⟨_, .given (hf := h86) (hd := rfl) (ha := rfl), ?_⟩; simp (maxSteps := 4000000) only [go_sem]))); refine hK _ ?_; clear hK K) | refine walkL_nil ?_ | refine walkL_ret ?_ | refine walkL_exit ?_ | refine blockA_here ?_ | refine blockA_other rfl ?_ | refine blockA_ret ?_ | refine blockA_normal ?_ | refine thenA_ret ?_ | refine thenA_exit ?_ | refine thenA_normal ?_)
    simp (maxSteps := 4000000) only [go_sem]
end Go.Ab
namespace Go.Ab
open Go.RowKit Go.Proofs
set_option maxHeartbeats 8000000
set_option maxRecDepth 20000
attribute [local irreducible] WalkL Walk
theorem zf155 (s : Sky) (h : Hour) : Fn Tryz.prog 155 [.agg s.row, .agg h.row] (.bool (insideB s h)) := by
  have h1 := zf194 s.wind h.wind
  have h2 := zf194 s.rain h.rain
  have h3 := zf194 s.temp h.temp
  rw [Span.row] at h1 h2 h3
  obtain ⟨b1, e1⟩ : ∃ b, b = withinB s.wind h.wind.lo h.wind.hi := ⟨_, rfl⟩
  obtain ⟨b2, e2⟩ : ∃ b, b = withinB s.rain h.rain.lo h.rain.hi := ⟨_, rfl⟩
  obtain ⟨b3, e3⟩ : ∃ b, b = withinB s.temp h.temp.lo h.temp.hi := ⟨_, rfl⟩
  rw [insideB, ← e1, ← e2, ← e3]
  rw [← e1] at h1
  rw [← e2] at h2
  rw [← e3] at h3
  refine fn_walk 24 Tryz.call155 Tryz.func155 rfl (by decide) fun J => ?_
  simp (maxSteps := 4000000) only [go_sem, St.start, Tryz.ntmps155, Tryz.results155, Hour.row, Sky.row]
  cases b1 <;> cases b2
  all_goals
    repeat (first | refine walkL_seq ?_ | refine walkL_skip ?_ | refine walkL_block ?_ | (refine walkL_region fun K hK => ?_; simp (maxSteps := 4000000) only [go_sem]; (repeat (first | (refine ⟨_, .lent (hf := h1) (hd := rfl) (hr := rfl), ?_⟩; simp (maxSteps := 4000000) only [go_sem]) | (refine ⟨_, .lent (hf := h2) (hd := rfl) (hr := rfl), ?_⟩; simp (maxSteps := 4000000) only [go_sem]) | (refine ⟨_, .lent (hf := h3) (hd := rfl) (hr := rfl), ?_⟩; simp (maxSteps := 4000000) only [go_sem]) | (refine ⟨_, .given (hf := h1) (hd := rfl) (ha := rfl), ?_⟩; simp (maxSteps := 4000000) only [go_sem]) | (refine ⟨_, .given (hf := h2) (hd := rfl) (ha := rfl), ?_⟩; simp (maxSteps := 4000000) only [go_sem]) | (refine ⟨_, .given (hf := h3) (hd := rfl) (ha := rfl), ?_⟩; simp (maxSteps := 4000000) only [go_sem]))); refine hK _ ?_; clear hK K) | refine walkL_nil ?_ | refine walkL_ret ?_ | refine walkL_exit ?_ | refine blockA_here ?_ | refine blockA_other rfl ?_ | refine blockA_ret ?_ | refine blockA_normal ?_ | refine thenA_ret ?_ | refine thenA_exit ?_ | refine thenA_normal ?_)
    simp (maxSteps := 4000000) only [go_sem]
theorem zf106 (F : List (List Hour)) (seen : List Sight) (hg : ForeGood F) (hsi : sightsB (hd0 F).length seen = true) : Fn Tryz.prog 106 [.agg [.sl (scenRows F)], .sl (sightRows seen)] (.sl (intRows (numsOf (possL F seen)))) := by
  obtain ⟨s1, s2, s3⟩ := sights_spec hsi
  have hF := hg.scen
  have hH := hg.hours
  refine fn_walk 50 Tryz.call106 Tryz.func106 rfl (by decide) fun J => ?_
  simp (maxSteps := 4000000) only [go_sem, St.start, Tryz.ntmps106, Tryz.results106]
  repeat (first | refine walkL_seq ?_ | refine walkL_skip ?_ | refine walkL_block ?_ | (refine walkL_region fun K hK => ?_; simp (maxSteps := 4000000) only [go_sem]; refine hK _ ?_; clear hK K) | refine walkL_nil ?_ | refine walkL_ret ?_ | refine walkL_exit ?_ | refine blockA_here ?_ | refine blockA_other rfl ?_ | refine blockA_ret ?_ | refine blockA_normal ?_ | refine thenA_ret ?_ | refine thenA_exit ?_ | refine thenA_normal ?_)
  refine walkL_loopS (fun (i : Nat) => [(6, .d (.i i)), (5, .own 48)]) (fun i => [(48, some (.arr 3 1 (intRows (numsOf (possFrom seen (F.take i) 0)))))]) (fun i => i ≤ F.length) (fun i => F.length - i) 0 ?_ (Nat.zero_le _) ?_
  · simp (maxSteps := 4000000) only [go_sem]
    refine weak_of [48] ?_ ?_ rfl rfl <;> simp [lessT, lessM, lessB, AV.less]
    all_goals first | done | rfl
  · intro i hi
    simp (maxSteps := 4000000) only [go_sem]
    repeat (first | refine walkL_seq ?_ | refine walkL_skip ?_ | refine walkL_block ?_ | (refine walkL_region fun K hK => ?_; simp (maxSteps := 4000000) only [go_sem]; refine hK _ ?_; clear hK K) | refine walkL_nil ?_ | refine walkL_ret ?_ | refine walkL_exit ?_ | refine blockA_here ?_ | refine blockA_other rfl ?_ | refine blockA_ret ?_ | refine blockA_normal ?_ | refine thenA_ret ?_ | refine thenA_exit ?_ | refine thenA_normal ?_)
    refine walkL_cond rfl (fun hb => ?_) (fun hb => ?_)
    · have hlt : i < F.length := by simpa using hb
      have hw : IntKind.i64.wrap ((i : Int) + 1) = ((i + 1 : Nat) : Int) := by rw [wr_small (by omega)]; simp
      obtain ⟨l, hl⟩ : ∃ l, F[i]? = some l := ⟨_, List.getElem?_eq_getElem hlt⟩
      have hll := hg.len l (List.mem_of_getElem? hl)
      have g1 := scenRows_at hl
      have htk : F.take (i + 1) = F.take i ++ [l] := by rw [List.take_add_one, hl]; rfl
      have hp := possFrom_push seen l (F.take i) 0
      have htl : (F.take i).length = i := by simp; omega
      rw [← htk, htl, Nat.zero_add] at hp
      have hpl := possFrom_len seen (F.take i) 0
      rw [htl] at hpl
      have hn1 : (numsOf (possFrom seen (F.take i) 0)).length + 1 ≤ 549755813888 := by simp [numsOf]; omega
      repeat (first | refine walkL_seq ?_ | refine walkL_skip ?_ | refine walkL_block ?_ | (refine walkL_region fun K hK => ?_; simp (maxSteps := 4000000) only [go_sem]; refine hK _ ?_; clear hK K) | refine walkL_nil ?_ | refine walkL_ret ?_ | refine walkL_exit ?_ | refine blockA_here ?_ | refine blockA_other rfl ?_ | refine blockA_ret ?_ | refine blockA_normal ?_ | refine thenA_ret ?_ | refine thenA_exit ?_ | refine thenA_normal ?_)
      refine walkL_loopS (fun (k : Nat) => [(8, .d (.i k)), (7, .d (.bool (agreesB (seen.take k) l)))]) (fun _ => []) (fun k => k ≤ seen.length) (fun k => seen.length - k) 0 ?_ (Nat.zero_le _) ?_
      · simp (maxSteps := 4000000) only [go_sem]
        refine weak_of [] ?_ ?_ rfl rfl <;> simp [lessT, lessM, lessB, AV.less]
        all_goals first | done | rfl
      · intro k hk
        simp (maxSteps := 4000000) only [go_sem]
        repeat (first | refine walkL_seq ?_ | refine walkL_skip ?_ | refine walkL_block ?_ | (refine walkL_region fun K hK => ?_; simp (maxSteps := 4000000) only [go_sem]; refine hK _ ?_; clear hK K) | refine walkL_nil ?_ | refine walkL_ret ?_ | refine walkL_exit ?_ | refine blockA_here ?_ | refine blockA_other rfl ?_ | refine blockA_ret ?_ | refine blockA_normal ?_ | refine thenA_ret ?_ | refine thenA_exit ?_ | refine thenA_normal ?_)
        refine walkL_cond rfl (fun hb => ?_) (fun hb => ?_)
        · have hltk : k < seen.length := by simpa using hb
          have hwk : IntKind.i64.wrap ((k : Int) + 1) = ((k + 1 : Nat) : Int) := by rw [wr_small (by omega)]; simp
          obtain ⟨s, hsk⟩ : ∃ s, seen[k]? = some s := ⟨_, List.getElem?_eq_getElem hltk⟩
          have gs := sightRows_at hsk
          have hr := s1 s (List.mem_of_getElem? hsk)
          have gr := hourRows_at (hourAt_get (l := l) (i := s.hour) ⟨hr.1, by omega⟩)
          have h90 := zf155 s.sky (hourAt l s.hour)
          rw [Sky.row, Hour.row] at h90
          have hnx : agreesB (seen.take (k + 1)) l = (agreesB (seen.take k) l && insideB s.sky (hourAt l s.hour)) := by
            rw [List.take_add_one, hsk]; simp [agreesB]
          cases hq : agreesB (seen.take k) l
          · rw [hq, Bool.false_and] at hnx
            repeat (first | refine walkL_true rfl ?_ | refine walkL_false rfl ?_ | refine walkL_seq ?_ | refine walkL_skip ?_ | refine walkL_block ?_ | (refine walkL_region fun K hK => ?_; simp (maxSteps := 4000000) only [go_sem, hwk]; refine hK _ ?_; clear hK K) | (refine walkL_drawn (by kernel_rfl) (by kernel_rfl) fun K hK => ?_; simp (maxSteps := 4000000) only [go_sem, hwk]; refine ⟨by kernel_rfl, hK _ ?_⟩; clear hK K) | refine walkL_nil ?_ | refine walkL_ret ?_ | refine walkL_exit ?_ | refine blockA_here ?_ | refine blockA_other rfl ?_ | refine blockA_ret ?_ | refine blockA_normal ?_ | refine thenA_ret ?_ | refine thenA_exit ?_ | refine thenA_normal ?_)
            refine ⟨rfl, k + 1, ?_, hltk, by omega⟩
            rw [hnx]
            refine weak_of [] ?_ ?_ rfl rfl <;> simp [lessT, lessM, lessB, AV.less]
          · rw [hq, Bool.true_and] at hnx
            repeat (first | refine walkL_true rfl ?_ | refine walkL_false rfl ?_ | refine walkL_seq ?_ | refine walkL_skip ?_ | refine walkL_block ?_ | (refine walkL_region fun K hK => ?_; simp (maxSteps := 4000000) only [go_sem, gs, g1, gr, hr.1, Sight.row, Hour.row, hwk]; (repeat (first | (refine ⟨_, .lent (hf := h90) (hd := rfl) (hr := rfl), ?_⟩; simp (maxSteps := 4000000) only [go_sem, gs, g1, gr, hr.1, Sight.row, Hour.row, hwk]) | (refine ⟨_, .given (hf := h90) (hd := rfl) (ha := rfl), ?_⟩; simp (maxSteps := 4000000) only [go_sem, gs, g1, gr, hr.1, Sight.row, Hour.row, hwk]))); refine hK _ ?_; clear hK K) | (refine walkL_drawn (by kernel_rfl) (by kernel_rfl) fun K hK => ?_; simp (maxSteps := 4000000) only [go_sem, gs, g1, gr, hr.1, Sight.row, Hour.row, hwk]; (repeat (first | (refine ⟨_, .fn (hf := h90) (hd := rfl) (hr := .inl rfl), ?_⟩; simp (maxSteps := 4000000) only [go_sem, gs, g1, gr, hr.1, Sight.row, Hour.row, hwk]))); refine ⟨by kernel_rfl, hK _ ?_⟩; clear hK K) | refine walkL_nil ?_ | refine walkL_ret ?_ | refine walkL_exit ?_ | refine blockA_here ?_ | refine blockA_other rfl ?_ | refine blockA_ret ?_ | refine blockA_normal ?_ | refine thenA_ret ?_ | refine thenA_exit ?_ | refine thenA_normal ?_)
            refine ⟨rfl, k + 1, ?_, hltk, by omega⟩
            rw [hnx]
            refine weak_of [] ?_ ?_ rfl rfl <;> simp [lessT, lessM, lessB, AV.less]
        · have he : k = seen.length := by (have : ¬ k < seen.length := by simpa using hb); omega
          subst he
          rw [List.take_length]
          cases hag : agreesB seen l
          · rw [hag, if_neg (by decide), List.append_nil] at hp
            repeat (first | refine walkL_true rfl ?_ | refine walkL_false rfl ?_ | refine walkL_seq ?_ | refine walkL_skip ?_ | refine walkL_block ?_ | (refine walkL_region fun K hK => ?_; simp (maxSteps := 4000000) only [go_sem, hw]; refine hK _ ?_; clear hK K) | refine walkL_nil ?_ | refine walkL_ret ?_ | refine walkL_exit ?_ | refine blockA_here ?_ | refine blockA_other rfl ?_ | refine blockA_ret ?_ | refine blockA_normal ?_ | refine thenA_ret ?_ | refine thenA_exit ?_ | refine thenA_normal ?_)
            refine ⟨rfl, i + 1, ?_, hlt, by omega⟩
            rw [hp]
            refine weak_of [] ?_ ?_ rfl rfl <;> simp [lessT, lessM, lessB, AV.less]
          · rw [hag, if_pos rfl] at hp
            repeat (first | refine walkL_true rfl ?_ | refine walkL_false rfl ?_ | refine walkL_seq ?_ | refine walkL_skip ?_ | refine walkL_block ?_ | (refine walkL_region fun K hK => ?_; simp (maxSteps := 4000000) only [go_sem, hn1, hw]; refine hK _ ?_; clear hK K) | refine walkL_nil ?_ | refine walkL_ret ?_ | refine walkL_exit ?_ | refine blockA_here ?_ | refine blockA_other rfl ?_ | refine blockA_ret ?_ | refine blockA_normal ?_ | refine thenA_ret ?_ | refine thenA_exit ?_ | refine thenA_normal ?_)
            refine ⟨rfl, i + 1, ?_, hlt, by omega⟩
            rw [hp, nums_push]
            refine weak_of [] ?_ ?_ rfl rfl <;> simp [lessT, lessM, lessB, AV.less]
            all_goals first | done | rfl
    · have he : i = F.length := by (have : ¬ i < F.length := by simpa using hb); omega
      subst he
      rw [List.take_length]
      repeat (first | refine walkL_seq ?_ | refine walkL_skip ?_ | refine walkL_block ?_ | (refine walkL_region fun K hK => ?_; simp (maxSteps := 4000000) only [go_sem]; refine hK _ ?_; clear hK K) | refine walkL_nil ?_ | refine walkL_ret ?_ | refine walkL_exit ?_ | refine blockA_here ?_ | refine blockA_other rfl ?_ | refine blockA_ret ?_ | refine blockA_normal ?_ | refine thenA_ret ?_ | refine thenA_exit ?_ | refine thenA_normal ?_)
      simp (maxSteps := 4000000) only [go_sem]
      rfl
theorem zf68 (F : List (List Hour)) (seen : List Sight) (hs : ForeSmall F) (hsl : seen.length < 2 ^ 30) :
    Fn Tryz.prog 68 [.agg [.sl (scenRows F)], .sl (sightRows seen)] (.tup [.sl (intRows (if lookF F seen 0 true = 0 then numsOf (possL F seen) else [])), .i (lookF F seen 0 true)]) := by
  have h68 := zf105 F seen hs hsl
  cases hb : badF F
  · have hg := fore_iff.1 hb
    cases hsi : sightsB ((hd0 F).length : Int) seen
    · have e1 : seenF F seen = 51 := by simp [seenF, hb, hsi]
      have e2 : lookF F seen 0 true = 51 := by simp [lookF, hb, hsi]
      rw [e1] at h68
      rw [e2, if_neg (by decide)]
      refine fn_walk 21 Tryz.call68 Tryz.func68 rfl (by decide) fun J => ?_
      simp (maxSteps := 4000000) only [go_sem, St.start, Tryz.ntmps68, Tryz.results68]
      repeat (first | refine walkL_true rfl ?_ | refine walkL_false rfl ?_ | refine walkL_seq ?_ | refine walkL_skip ?_ | refine walkL_block ?_ | (refine walkL_region fun K hK => ?_; simp (maxSteps := 4000000) only [go_sem]; (repeat (first | (refine ⟨_, .lent (hf := h68) (hd := rfl) (hr := rfl), ?_⟩; simp (maxSteps := 4000000) only [go_sem]) | (refine ⟨_, .given (hf := h68) (hd := rfl) (ha := rfl), ?_⟩; simp (maxSteps := 4000000) only [go_sem]))); refine hK _ ?_; clear hK K) | refine walkL_nil ?_ | refine walkL_ret ?_ | refine walkL_exit ?_ | refine blockA_here ?_ | refine blockA_other rfl ?_ | refine blockA_ret ?_ | refine blockA_normal ?_ | refine thenA_ret ?_ | refine thenA_exit ?_ | refine thenA_normal ?_)
      simp (maxSteps := 4000000) only [go_sem]
      try rfl
    · have e1 : seenF F seen = 0 := by simp [seenF, hb, hsi]
      rw [e1] at h68
      have h69 := zf106 F seen hg hsi
      cases hp : possL F seen with
      | nil =>
        have e2 : lookF F seen 0 true = 3 := by simp [lookF, hb, hsi, hp]
        rw [hp] at h69
        rw [e2, if_neg (by decide)]
        have e3 : intRows (numsOf []) = [] := rfl
        rw [e3] at h69
        refine fn_walk 21 Tryz.call68 Tryz.func68 rfl (by decide) fun J => ?_
        simp (maxSteps := 4000000) only [go_sem, St.start, Tryz.ntmps68, Tryz.results68]
        repeat (first | refine walkL_true rfl ?_ | refine walkL_false rfl ?_ | refine walkL_seq ?_ | refine walkL_skip ?_ | refine walkL_block ?_ | (refine walkL_region fun K hK => ?_; simp (maxSteps := 4000000) only [go_sem]; (repeat (first | (refine ⟨_, .lent (hf := h68) (hd := rfl) (hr := rfl), ?_⟩; simp (maxSteps := 4000000) only [go_sem]) | (refine ⟨_, .lent (hf := h69) (hd := rfl) (hr := rfl), ?_⟩; simp (maxSteps := 4000000) only [go_sem]) | (refine ⟨_, .given (hf := h68) (hd := rfl) (ha := rfl), ?_⟩; simp (maxSteps := 4000000) only [go_sem]) | (refine ⟨_, .given (hf := h69) (hd := rfl) (ha := rfl), ?_⟩; simp (maxSteps := 4000000) only [go_sem]))); refine hK _ ?_; clear hK K) | refine walkL_nil ?_ | refine walkL_ret ?_ | refine walkL_exit ?_ | refine blockA_here ?_ | refine blockA_other rfl ?_ | refine blockA_ret ?_ | refine blockA_normal ?_ | refine thenA_ret ?_ | refine thenA_exit ?_ | refine thenA_normal ?_)
        simp (maxSteps := 4000000) only [go_sem]
        try rfl
      | cons y ys =>
        have e2 : lookF F seen 0 true = 0 := by simp [lookF, hb, hsi, hp]
        rw [hp] at h69
        rw [e2, if_pos rfl]
        have hz : ((((y :: ys).length : Nat) : Int) == 0) = false := by simp; omega
        refine fn_walk 21 Tryz.call68 Tryz.func68 rfl (by decide) fun J => ?_
        simp (maxSteps := 4000000) only [go_sem, St.start, Tryz.ntmps68, Tryz.results68]
        repeat (first | refine walkL_true rfl ?_ | refine walkL_false rfl ?_ | refine walkL_seq ?_ | refine walkL_skip ?_ | refine walkL_block ?_ | (refine walkL_region fun K hK => ?_; simp (maxSteps := 4000000) only [go_sem, hz, nums_len]; (repeat (first | (refine ⟨_, .lent (hf := h68) (hd := rfl) (hr := rfl), ?_⟩; simp (maxSteps := 4000000) only [go_sem, hz, nums_len]) | (refine ⟨_, .lent (hf := h69) (hd := rfl) (hr := rfl), ?_⟩; simp (maxSteps := 4000000) only [go_sem, hz, nums_len]) | (refine ⟨_, .given (hf := h68) (hd := rfl) (ha := rfl), ?_⟩; simp (maxSteps := 4000000) only [go_sem, hz, nums_len]) | (refine ⟨_, .given (hf := h69) (hd := rfl) (ha := rfl), ?_⟩; simp (maxSteps := 4000000) only [go_sem, hz, nums_len]))); refine hK _ ?_; clear hK K) | refine walkL_nil ?_ | refine walkL_ret ?_ | refine walkL_exit ?_ | refine blockA_here ?_ | refine blockA_other rfl ?_ | refine blockA_ret ?_ | refine blockA_normal ?_ | refine thenA_ret ?_ | refine thenA_exit ?_ | refine thenA_normal ?_)
        simp (maxSteps := 4000000) only [go_sem]
  · have e1 : seenF F seen = 50 := by simp [seenF, hb]
    have e2 : lookF F seen 0 true = 50 := by simp [lookF, hb]
    rw [e1] at h68
    rw [e2, if_neg (by decide)]
    refine fn_walk 21 Tryz.call68 Tryz.func68 rfl (by decide) fun J => ?_
    simp (maxSteps := 4000000) only [go_sem, St.start, Tryz.ntmps68, Tryz.results68]
    repeat (first | refine walkL_true rfl ?_ | refine walkL_false rfl ?_ | refine walkL_seq ?_ | refine walkL_skip ?_ | refine walkL_block ?_ | (refine walkL_region fun K hK => ?_; simp (maxSteps := 4000000) only [go_sem]; (repeat (first | (refine ⟨_, .lent (hf := h68) (hd := rfl) (hr := rfl), ?_⟩; simp (maxSteps := 4000000) only [go_sem]) | (refine ⟨_, .given (hf := h68) (hd := rfl) (ha := rfl), ?_⟩; simp (maxSteps := 4000000) only [go_sem]))); refine hK _ ?_; clear hK K) | refine walkL_nil ?_ | refine walkL_ret ?_ | refine walkL_exit ?_ | refine blockA_here ?_ | refine blockA_other rfl ?_ | refine blockA_ret ?_ | refine blockA_normal ?_ | refine thenA_ret ?_ | refine thenA_exit ?_ | refine thenA_normal ?_)
    simp (maxSteps := 4000000) only [go_sem]
    try rfl
def plantE (p : Plant) : Int := if lookF p.scen p.seen 0 true = 0 then (if plantBad p (hoursOf p) then 100 else 0) else lookF p.scen p.seen 0 true
end Go.Ab
namespace Go.Ab
open Go.RowKit Go.Proofs
set_option maxHeartbeats 8000000
set_option maxRecDepth 20000
attribute [local irreducible] WalkL Walk
def eqAll : List Hour → List Sky → Bool
  | [], [] => true
  | h :: l, s :: m => insideB s h && eqAll l m
  | _, _ => false
theorem zf218 (xs : List (List Hour)) (g : Nat) (caps : List DV) (q : (List Hour) → Bool) (hq : ∀ s ∈ xs, Fn Tryz.prog g (.sl (hourRows s) :: caps) (.bool (q s))) (hl : xs.length < 2 ^ 62) : Fn Tryz.prog 218 [.sl (scenRows xs), .fn g caps] (.i (idxFrom q xs 0)) := by
  refine fn_walk 19 Tryz.call218 Tryz.func218 rfl (by decide) fun J => ?_
  simp (maxSteps := 4000000) only [go_sem, St.start, Tryz.ntmps218, Tryz.results218]
  repeat (first | refine walkL_seq ?_ | refine walkL_skip ?_ | refine walkL_block ?_ | (refine walkL_region fun K hK => ?_; simp (maxSteps := 4000000) only [go_sem]; refine hK _ ?_; clear hK K) | refine walkL_nil ?_ | refine walkL_ret ?_ | refine walkL_exit ?_ | refine blockA_here ?_ | refine blockA_other rfl ?_ | refine blockA_ret ?_ | refine blockA_normal ?_ | refine thenA_ret ?_ | refine thenA_exit ?_ | refine thenA_normal ?_)
  refine walkL_loopS (fun (i : Nat) => [(8, .d (.i i))]) (fun _ => []) (fun i => i ≤ xs.length ∧ idxFrom q xs 0 = idxFrom q (xs.drop i) i) (fun i => xs.length - i) 0 ?_ ⟨Nat.zero_le _, rfl⟩ ?_
  · simp (maxSteps := 4000000) only [go_sem]
    refine weak_of [] ?_ ?_ rfl rfl <;> simp [lessT, lessM, lessB, AV.less]
  · intro i ⟨hi, hq0⟩
    simp (maxSteps := 4000000) only [go_sem]
    repeat (first | refine walkL_seq ?_ | refine walkL_skip ?_ | refine walkL_block ?_ | (refine walkL_region fun K hK => ?_; simp (maxSteps := 4000000) only [go_sem]; refine hK _ ?_; clear hK K) | refine walkL_nil ?_ | refine walkL_ret ?_ | refine walkL_exit ?_ | refine blockA_here ?_ | refine blockA_other rfl ?_ | refine blockA_ret ?_ | refine blockA_normal ?_ | refine thenA_ret ?_ | refine thenA_exit ?_ | refine thenA_normal ?_)
    refine walkL_cond rfl (fun hb => ?_) (fun hb => ?_)
    · have hlt : i < xs.length := by simpa using hb
      have hw : IntKind.i64.wrap ((i : Int) + 1) = ((i + 1 : Nat) : Int) := by rw [wr_small (by omega)]; simp
      obtain ⟨s, hs⟩ : ∃ s, xs[i]? = some s := ⟨_, List.getElem?_eq_getElem hlt⟩
      rw [drop_get hs, idxFrom] at hq0
      repeat (first | refine walkL_seq ?_ | refine walkL_skip ?_ | refine walkL_block ?_ | (refine walkL_region fun K hK => ?_; simp (maxSteps := 4000000) only [go_sem]; refine hK _ ?_; clear hK K) | refine walkL_nil ?_ | refine walkL_ret ?_ | refine walkL_exit ?_ | refine blockA_here ?_ | refine blockA_other rfl ?_ | refine blockA_ret ?_ | refine blockA_normal ?_ | refine thenA_ret ?_ | refine thenA_exit ?_ | refine thenA_normal ?_)
      refine walkL_region fun K hK => ?_
      simp (maxSteps := 4000000) only [go_sem, hs, List.getElem?_map, scenRows_at hs, hw]
      refine ⟨_, .lent (hf := hq s (List.mem_of_getElem? hs)) (hd := reify_caps _ _ _ _ rfl) (hr := rfl), ?_⟩
      simp (maxSteps := 4000000) only [go_sem]
      refine hK _ ?_
      clear hK K
      refine walkL_cond rfl (fun hc => ?_) (fun hc => ?_)
      · rw [hc, if_pos rfl] at hq0
        repeat (first | refine walkL_seq ?_ | refine walkL_skip ?_ | refine walkL_block ?_ | (refine walkL_region fun K hK => ?_; simp (maxSteps := 4000000) only [go_sem]; refine hK _ ?_; clear hK K) | refine walkL_nil ?_ | refine walkL_ret ?_ | refine walkL_exit ?_ | refine blockA_here ?_ | refine blockA_other rfl ?_ | refine blockA_ret ?_ | refine blockA_normal ?_ | refine thenA_ret ?_ | refine thenA_exit ?_ | refine thenA_normal ?_)
        simp (maxSteps := 4000000) only [go_sem, hq0]
      · rw [hc] at hq0
        repeat (first | refine walkL_seq ?_ | refine walkL_skip ?_ | refine walkL_block ?_ | (refine walkL_region fun K hK => ?_; simp (maxSteps := 4000000) only [go_sem, hw]; refine hK _ ?_; clear hK K) | refine walkL_nil ?_ | refine walkL_ret ?_ | refine walkL_exit ?_ | refine blockA_here ?_ | refine blockA_other rfl ?_ | refine blockA_ret ?_ | refine blockA_normal ?_ | refine thenA_ret ?_ | refine thenA_exit ?_ | refine thenA_normal ?_)
        refine ⟨rfl, i + 1, ?_, ⟨hlt, hq0⟩, by omega⟩
        refine weak_of [] ?_ ?_ rfl rfl <;> simp [lessT, lessM, lessB, AV.less]
    · have he : i = xs.length := by (have : ¬ i < xs.length := by simpa using hb); omega
      subst he
      repeat (first | refine walkL_seq ?_ | refine walkL_skip ?_ | refine walkL_block ?_ | (refine walkL_region fun K hK => ?_; simp (maxSteps := 4000000) only [go_sem]; refine hK _ ?_; clear hK K) | refine walkL_nil ?_ | refine walkL_ret ?_ | refine walkL_exit ?_ | refine blockA_here ?_ | refine blockA_other rfl ?_ | refine blockA_ret ?_ | refine blockA_normal ?_ | refine thenA_ret ?_ | refine thenA_exit ?_ | refine thenA_normal ?_)
      simp (maxSteps := 4000000) only [go_sem, hq0, List.drop_length, idxFrom]
theorem zf191 (xs : List (List Hour)) (g : Nat) (caps : List DV) (q : (List Hour) → Bool) (hq : ∀ s ∈ xs, Fn Tryz.prog g (.sl (hourRows s) :: caps) (.bool (q s))) (hl : xs.length < 2 ^ 62) : Fn Tryz.prog 191 [.sl (scenRows xs), .fn g caps] (.bool (xs.any q)) := by
  refine fn_walk 9 Tryz.call191 Tryz.func191 rfl (by decide) fun J => ?_
  simp (maxSteps := 4000000) only [go_sem, St.start, Tryz.ntmps191, Tryz.results191]
  repeat (first | refine walkL_seq ?_ | refine walkL_skip ?_ | refine walkL_block ?_ | (refine walkL_region fun K hK => ?_; simp (maxSteps := 4000000) only [go_sem]; (repeat (first | (refine ⟨_, .lent (hf := zf218 xs g caps q hq hl) (hd := rfl) (hr := rfl), ?_⟩; simp (maxSteps := 4000000) only [go_sem]) | (refine ⟨_, .given (hf := zf218 xs g caps q hq hl) (hd := rfl) (ha := rfl), ?_⟩; simp (maxSteps := 4000000) only [go_sem]))); refine hK _ ?_; clear hK K) | refine walkL_nil ?_ | refine walkL_ret ?_ | refine walkL_exit ?_ | refine blockA_here ?_ | refine blockA_other rfl ?_ | refine blockA_ret ?_ | refine blockA_normal ?_ | refine thenA_ret ?_ | refine thenA_exit ?_ | refine thenA_normal ?_)
  simp (maxSteps := 4000000) only [go_sem, idxFrom_nonneg]
def weatherB (g : Grid) (m : List Sky) : Bool := g.scen.any fun l => eqAll l m
def levsTo (p : Plant) (burn : List Int) (skies : List Sky) (k : Nat) : List Int := (List.range k).map fun j => lvAt p burn skies (j + 1)
def lostTo (p : Plant) (burn : List Int) (skies : List Sky) : Nat → Int
  | 0 => 0
  | k + 1 => wr (lostTo p burn skies k + lostAt p burn skies k)
def levelsE (p : Plant) (burn : List Int) (m : List Sky) : Int := if openE p [burn] = 0 then (if weatherB (gridOf p) m then 0 else 102) else openE p [burn]
def levelsP (p : Plant) (burn : List Int) (m : List Sky) : List Int × Int × Int :=
  if levelsE p burn m = 0 then (levsTo p burn m m.length, lostTo p burn m m.length, 0) else ([], 0, levelsE p burn m)
def lastsP (p : Plant) (burn : List Int) : Int × Int := if openE p [burn] = 0 then ((hardF (gridOf p) burn).2, 0) else (0, openE p [burn])
def worstP (p : Plant) (burn : List Int) : List Sky × Int :=
  if openE p [burn] = 0 then (if (hardF (gridOf p) burn).2 = (gridOf p).hours then ([], 3) else ((hardF (gridOf p) burn).1, 0)) else ([], openE p [burn])
end Go.Ab
namespace Go.Ab
open Go.RowKit Go.Proofs
set_option maxHeartbeats 8000000
set_option maxRecDepth 40000
attribute [local irreducible] WalkL Walk
def exH (lo hi : Int) : Hour := ⟨⟨lo, hi⟩, ⟨0, 0⟩, ⟨0, 10⟩⟩
def exF : List (List Hour) := [[exH 10 20, exH 10 20, exH 10 20, exH 10 20, exH 30 60, exH 30 60], [exH 15 45, exH 15 45, exH 10 20, exH 10 20, exH 10 20, exH 10 20]]
def exP : Plant := ⟨exF, [], [0, 40, 80, 80, 40, 0], 1, 12, 50, 100, 150, 20, 50, 2, 9, [60, 60, 60, 60, 90, 90]⟩
end Go.Ab
namespace Go.Ab
open Go.RowKit Go.Proofs
set_option maxHeartbeats 8000000
set_option maxRecDepth 20000
attribute [local irreducible] WalkL Walk
def farL (F : List (List Hour)) : Bool := F.any fun l => decide ((l.length : Int) > 50)
def far5 (F : List (List Hour)) (seen : List Sight) : Bool :=
  (decide ((F.length : Int) > 8) || decide ((seen.length : Int) > 22)) || (farL F || (decide (foreF F = 0) && (decide ((F.length : Int) > 4) || decide (((hd0 F).length : Int) > 12))))
theorem foreF_vals (F : List (List Hour)) : foreF F = 0 ∨ foreF F = 50 := by
  unfold foreF
  split
  · exact Or.inr rfl
  · exact Or.inl rfl
theorem foreF_bad {F : List (List Hour)} (h : foreF F = 0) : badF F = false := by
  cases hb : badF F with
  | false => rfl
  | true => simp [foreF, hb] at h
theorem zf47 (F : List (List Hour)) (seen : List Sight) (hs : ForeSmall F) : Fn Tryz.prog 47 [.agg [.sl (scenRows F)], .sl (sightRows seen)] (.bool (far5 F seen)) := by
  have h1 := hs.scen
  have h86 := zf81 F hs
  cases q1 : decide ((F.length : Int) > 8)
  case true =>
    refine fn_walk 44 Tryz.call47 Tryz.func47 rfl (by decide) fun J => ?_
    simp (maxSteps := 4000000) only [go_sem, St.start, Tryz.ntmps47, Tryz.results47]
    repeat (first | refine walkL_true rfl ?_ | refine walkL_false rfl ?_ | refine walkL_seq ?_ | refine walkL_skip ?_ | refine walkL_block ?_ | (refine walkL_region fun K hK => ?_; simp (maxSteps := 4000000) only [go_sem, q1]; refine hK _ ?_; clear hK K) | refine walkL_nil ?_ | refine walkL_ret ?_ | refine walkL_exit ?_ | refine blockA_here ?_ | refine blockA_other rfl ?_ | refine blockA_ret ?_ | refine blockA_normal ?_ | refine thenA_ret ?_ | refine thenA_exit ?_ | refine thenA_normal ?_)
    simp (maxSteps := 4000000) only [go_sem, far5, q1]
  case false =>
  cases q2 : decide ((seen.length : Int) > 22)
  case true =>
    refine fn_walk 44 Tryz.call47 Tryz.func47 rfl (by decide) fun J => ?_
    simp (maxSteps := 4000000) only [go_sem, St.start, Tryz.ntmps47, Tryz.results47]
    repeat (first | refine walkL_true rfl ?_ | refine walkL_false rfl ?_ | refine walkL_seq ?_ | refine walkL_skip ?_ | refine walkL_block ?_ | (refine walkL_region fun K hK => ?_; simp (maxSteps := 4000000) only [go_sem, q1, q2]; refine hK _ ?_; clear hK K) | refine walkL_nil ?_ | refine walkL_ret ?_ | refine walkL_exit ?_ | refine blockA_here ?_ | refine blockA_other rfl ?_ | refine blockA_ret ?_ | refine blockA_normal ?_ | refine thenA_ret ?_ | refine thenA_exit ?_ | refine thenA_normal ?_)
    simp (maxSteps := 4000000) only [go_sem, far5, q1, q2]
  case false =>
  refine fn_walk 44 Tryz.call47 Tryz.func47 rfl (by decide) fun J => ?_
  simp (maxSteps := 4000000) only [go_sem, St.start, Tryz.ntmps47, Tryz.results47]
  repeat (first | refine walkL_true rfl ?_ | refine walkL_false rfl ?_ | refine walkL_seq ?_ | refine walkL_skip ?_ | refine walkL_block ?_ | (refine walkL_region fun K hK => ?_; simp (maxSteps := 4000000) only [go_sem, q1, q2]; refine hK _ ?_; clear hK K) | refine walkL_nil ?_ | refine walkL_ret ?_ | refine walkL_exit ?_ | refine blockA_here ?_ | refine blockA_other rfl ?_ | refine blockA_ret ?_ | refine blockA_normal ?_ | refine thenA_ret ?_ | refine thenA_exit ?_ | refine thenA_normal ?_)
  refine walkL_loopS (fun (i : Nat) => [(5, .d (.i i))]) (fun _ => []) (fun i => i ≤ F.length ∧ farL (F.take i) = false) (fun i => F.length - i) 0 ?_ ⟨Nat.zero_le _, rfl⟩ ?_
  · simp (maxSteps := 4000000) only [go_sem]
    refine weak_of [] ?_ ?_ rfl rfl <;> simp [lessT, lessM, lessB, AV.less]
  · intro i ⟨hi, hall⟩
    simp (maxSteps := 4000000) only [go_sem]
    repeat (first | refine walkL_seq ?_ | refine walkL_skip ?_ | refine walkL_block ?_ | (refine walkL_region fun K hK => ?_; simp (maxSteps := 4000000) only [go_sem]; refine hK _ ?_; clear hK K) | refine walkL_nil ?_ | refine walkL_ret ?_ | refine walkL_exit ?_ | refine blockA_here ?_ | refine blockA_other rfl ?_ | refine blockA_ret ?_ | refine blockA_normal ?_ | refine thenA_ret ?_ | refine thenA_exit ?_ | refine thenA_normal ?_)
    refine walkL_cond rfl (fun hb => ?_) (fun hb => ?_)
    · have hlt : i < F.length := by simpa using hb
      have hw : IntKind.i64.wrap ((i : Int) + 1) = ((i + 1 : Nat) : Int) := by rw [wr_small (by omega)]; simp
      obtain ⟨l, hx⟩ : ∃ l, F[i]? = some l := ⟨_, List.getElem?_eq_getElem hlt⟩
      have g1 := scenRows_at hx
      cases q3 : decide ((l.length : Int) > 50)
      · repeat (first | refine walkL_true rfl ?_ | refine walkL_false rfl ?_ | refine walkL_seq ?_ | refine walkL_skip ?_ | refine walkL_block ?_ | (refine walkL_region fun K hK => ?_; simp (maxSteps := 4000000) only [go_sem, g1, q3, hw]; refine hK _ ?_; clear hK K) | refine walkL_nil ?_ | refine walkL_ret ?_ | refine walkL_exit ?_ | refine blockA_here ?_ | refine blockA_other rfl ?_ | refine blockA_ret ?_ | refine blockA_normal ?_ | refine thenA_ret ?_ | refine thenA_exit ?_ | refine thenA_normal ?_)
        refine ⟨rfl, i + 1, ?_, ⟨hlt, any_take_succ hx hall q3⟩, by omega⟩
        refine weak_of [] ?_ ?_ rfl rfl <;> simp [lessT, lessM, lessB, AV.less]
      · have e : farL F = true := any_of_get hx q3
        repeat (first | refine walkL_true rfl ?_ | refine walkL_false rfl ?_ | refine walkL_seq ?_ | refine walkL_skip ?_ | refine walkL_block ?_ | (refine walkL_region fun K hK => ?_; simp (maxSteps := 4000000) only [go_sem, g1, q3]; refine hK _ ?_; clear hK K) | refine walkL_nil ?_ | refine walkL_ret ?_ | refine walkL_exit ?_ | refine blockA_here ?_ | refine blockA_other rfl ?_ | refine blockA_ret ?_ | refine blockA_normal ?_ | refine thenA_ret ?_ | refine thenA_exit ?_ | refine thenA_normal ?_)
        simp (maxSteps := 4000000) only [go_sem, far5, e]
    · have he : i = F.length := by (have : ¬ i < F.length := by simpa using hb); omega
      subst he
      rw [List.take_length] at hall
      rcases foreF_vals F with e0 | e0
      · rw [e0] at h86
        have hg := fore_iff.1 (foreF_bad e0)
        have h0 := headD_get (F := F) (by have := hg.scen; omega)
        have h71 := zf48 F _ h0
        change Fn Tryz.prog 48 _ (.i (hd0 F).length) at h71
        cases q4 : decide ((F.length : Int) > 4)
        · repeat (first | refine walkL_true rfl ?_ | refine walkL_false rfl ?_ | refine walkL_seq ?_ | refine walkL_skip ?_ | refine walkL_block ?_ | (refine walkL_region fun K hK => ?_; simp (maxSteps := 4000000) only [go_sem, q4]; (repeat (first | (refine ⟨_, .lent (hf := h86) (hd := rfl) (hr := rfl), ?_⟩; simp (maxSteps := 4000000) only [go_sem, q4]) | (refine ⟨_, .lent (hf := h71) (hd := rfl) (hr := rfl), ?_⟩; simp (maxSteps := 4000000) only [go_sem, q4]) | (refine ⟨_, .given (hf := h86) (hd := rfl) (ha := rfl), ?_⟩; simp (maxSteps := 4000000) only [go_sem, q4]) | (refine ⟨_, .given (hf := h71) (hd := rfl) (ha := rfl), ?_⟩; simp (maxSteps := 4000000) only [go_sem, q4]))); refine hK _ ?_; clear hK K) | refine walkL_nil ?_ | refine walkL_ret ?_ | refine walkL_exit ?_ | refine blockA_here ?_ | refine blockA_other rfl ?_ | refine blockA_ret ?_ | refine blockA_normal ?_ | refine thenA_ret ?_ | refine thenA_exit ?_ | refine thenA_normal ?_)
          simp (maxSteps := 4000000) only [go_sem, far5, q1, q2, hall, e0, q4]
        · repeat (first | refine walkL_true rfl ?_ | refine walkL_false rfl ?_ | refine walkL_seq ?_ | refine walkL_skip ?_ | refine walkL_block ?_ | (refine walkL_region fun K hK => ?_; simp (maxSteps := 4000000) only [go_sem, q4]; (repeat (first | (refine ⟨_, .lent (hf := h86) (hd := rfl) (hr := rfl), ?_⟩; simp (maxSteps := 4000000) only [go_sem, q4]) | (refine ⟨_, .lent (hf := h71) (hd := rfl) (hr := rfl), ?_⟩; simp (maxSteps := 4000000) only [go_sem, q4]) | (refine ⟨_, .given (hf := h86) (hd := rfl) (ha := rfl), ?_⟩; simp (maxSteps := 4000000) only [go_sem, q4]) | (refine ⟨_, .given (hf := h71) (hd := rfl) (ha := rfl), ?_⟩; simp (maxSteps := 4000000) only [go_sem, q4]))); refine hK _ ?_; clear hK K) | refine walkL_nil ?_ | refine walkL_ret ?_ | refine walkL_exit ?_ | refine blockA_here ?_ | refine blockA_other rfl ?_ | refine blockA_ret ?_ | refine blockA_normal ?_ | refine thenA_ret ?_ | refine thenA_exit ?_ | refine thenA_normal ?_)
          simp (maxSteps := 4000000) only [go_sem, far5, q1, q2, hall, e0, q4]
      · rw [e0] at h86
        repeat (first | refine walkL_true rfl ?_ | refine walkL_false rfl ?_ | refine walkL_seq ?_ | refine walkL_skip ?_ | refine walkL_block ?_ | (refine walkL_region fun K hK => ?_; simp (maxSteps := 4000000) only [go_sem]; (repeat (first | (refine ⟨_, .lent (hf := h86) (hd := rfl) (hr := rfl), ?_⟩; simp (maxSteps := 4000000) only [go_sem]) | (refine ⟨_, .given (hf := h86) (hd := rfl) (ha := rfl), ?_⟩; simp (maxSteps := 4000000) only [go_sem]))); refine hK _ ?_; clear hK K) | refine walkL_nil ?_ | refine walkL_ret ?_ | refine walkL_exit ?_ | refine blockA_here ?_ | refine blockA_other rfl ?_ | refine blockA_ret ?_ | refine blockA_normal ?_ | refine thenA_ret ?_ | refine thenA_exit ?_ | refine thenA_normal ?_)
        simp (maxSteps := 4000000) only [go_sem, far5, q1, q2, hall, e0]
def far10 (p : Plant) : Bool :=
  (far5 p.scen p.seen || (decide ((p.sun.length : Int) > 100) || decide ((p.needs.length : Int) > 100))) ||
  (decide (plantE p = 0) && (decide ((p.sun.length : Int) > 5) || (decide ((p.scen.length : Int) > 3) || decide (p.rate > 2))))
def validB (p : Plant) : Bool := !far10 p && decide (plantE p = 0)
def isBurnB (p : Plant) (l : List Int) : Bool := (l.all fun n => withinB n 0 p.rate) && (((l.length : Int) == p.sun.length) && decide (sumI l ≤ p.units))
end Go.Ab
