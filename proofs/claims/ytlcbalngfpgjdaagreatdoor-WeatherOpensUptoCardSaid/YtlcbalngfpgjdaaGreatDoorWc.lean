/- A walk engine over abstract states, and the contracts of the functions that the statement reaches: part 3. -/
import Derived.Test.YtlcbalngfpgjdaaGreatDoorWb
import Derived.Test.YtlcbalngfpgjdaaGreatDoorProg
set_option linter.unusedVariables false
set_option linter.unusedSimpArgs false
set_option linter.unnecessarySimpa false
/- Drawn regions in which something is appended: what named the array before is forgotten. -/
namespace Go.Ab
open Go.RowKit
def AV.whole : AV → Bool
  | .undef => false
  | .agg cs | .tup cs | .fn _ cs => AV.wholes cs
  | _ => true
where AV.wholes : List AV → Bool
  | [] => true
  | x :: xs => x.whole && AV.wholes xs
def AV.lose (n : Nat) (x : AV) : AV := x.sub n fun _ => .undef
mutual
theorem lose_same (n : Nat) : ∀ (x : AV), n ∉ x.refs → x.sub n (fun _ => .undef) = x
  | .box k o, h => by simp only [AV.refs, List.mem_singleton] at h; simp only [AV.sub]; rw [if_neg (fun e => h e.symm)]
  | .elem k i o, h => by simp only [AV.refs, List.mem_singleton] at h; simp only [AV.sub]; rw [if_neg (fun e => h e.symm)]
  | .own k, h => by simp only [AV.refs, List.mem_singleton] at h; simp only [AV.sub]; rw [if_neg (fun e => h e.symm)]
  | .view k o l, h => by simp only [AV.refs, List.mem_singleton] at h; simp only [AV.sub]; rw [if_neg (fun e => h e.symm)]
  | .bsl k l, h => by simp only [AV.refs, List.mem_singleton] at h; simp only [AV.sub]; rw [if_neg (fun e => h e.symm)]
  | .mp k, h => by simp only [AV.refs, List.mem_singleton] at h; simp only [AV.sub]; rw [if_neg (fun e => h e.symm)]
  | .agg cs, h => by simp only [AV.sub]; rw [loses_same n cs (by simpa [AV.refs] using h)]
  | .tup cs, h => by simp only [AV.sub]; rw [loses_same n cs (by simpa [AV.refs] using h)]
  | .fn f cs, h => by simp only [AV.sub]; rw [loses_same n cs (by simpa [AV.refs] using h)]
  | .undef, _ => rfl
  | .void, _ => rfl
  | .d _, _ => rfl
  | .nil, _ => rfl
theorem loses_same (n : Nat) : ∀ (l : List AV), n ∉ AV.refs.AV.refss l → AV.sub.AV.subs n (fun _ => .undef) l = l
  | [], _ => rfl
  | x :: xs, h => by
    simp only [AV.refs.AV.refss, List.mem_append, not_or] at h
    simp only [AV.sub.AV.subs]
    rw [lose_same n x h.1, loses_same n xs h.2]
end
mutual
theorem lose_whole (n : Nat) : ∀ (x : AV), (x.sub n (fun _ => .undef)).whole = true → n ∉ x.refs
  | .box k o, h => by
    simp only [AV.sub] at h
    split at h
    · simp [AV.whole] at h
    · rename_i hk; simp only [AV.refs, List.mem_singleton]; exact fun e => hk e.symm
  | .elem k i o, h => by
    simp only [AV.sub] at h
    split at h
    · simp [AV.whole] at h
    · rename_i hk; simp only [AV.refs, List.mem_singleton]; exact fun e => hk e.symm
  | .own k, h => by
    simp only [AV.sub] at h
    split at h
    · simp [AV.whole] at h
    · rename_i hk; simp only [AV.refs, List.mem_singleton]; exact fun e => hk e.symm
  | .view k o l, h => by
    simp only [AV.sub] at h
    split at h
    · simp [AV.whole] at h
    · rename_i hk; simp only [AV.refs, List.mem_singleton]; exact fun e => hk e.symm
  | .bsl k l, h => by
    simp only [AV.sub] at h
    split at h
    · simp [AV.whole] at h
    · rename_i hk; simp only [AV.refs, List.mem_singleton]; exact fun e => hk e.symm
  | .mp k, h => by
    simp only [AV.sub] at h
    split at h
    · simp [AV.whole] at h
    · rename_i hk; simp only [AV.refs, List.mem_singleton]; exact fun e => hk e.symm
  | .agg cs, h => by simp only [AV.refs]; exact loses_whole n cs (by simpa [AV.sub, AV.whole] using h)
  | .tup cs, h => by simp only [AV.refs]; exact loses_whole n cs (by simpa [AV.sub, AV.whole] using h)
  | .fn f cs, h => by simp only [AV.refs]; exact loses_whole n cs (by simpa [AV.sub, AV.whole] using h)
  | .undef, _ => by simp [AV.refs]
  | .void, _ => by simp [AV.refs]
  | .d _, _ => by simp [AV.refs]
  | .nil, _ => by simp [AV.refs]
theorem loses_whole (n : Nat) : ∀ (l : List AV), AV.whole.AV.wholes (AV.sub.AV.subs n (fun _ => .undef) l) = true → n ∉ AV.refs.AV.refss l
  | [], _ => by simp [AV.refs.AV.refss]
  | x :: xs, h => by
    simp only [AV.sub.AV.subs, AV.whole.AV.wholes, Bool.and_eq_true] at h
    simp only [AV.refs.AV.refss, List.mem_append, not_or]
    exact ⟨lose_whole n x h.1, loses_whole n xs h.2⟩
end
mutual
theorem sub_same (n : Nat) (f : AV → AV) : ∀ (x : AV), n ∉ x.refs → x.sub n f = x
  | .box k o, h => by simp only [AV.refs, List.mem_singleton] at h; simp only [AV.sub]; rw [if_neg (fun e => h e.symm)]
  | .elem k i o, h => by simp only [AV.refs, List.mem_singleton] at h; simp only [AV.sub]; rw [if_neg (fun e => h e.symm)]
  | .own k, h => by simp only [AV.refs, List.mem_singleton] at h; simp only [AV.sub]; rw [if_neg (fun e => h e.symm)]
  | .view k o l, h => by simp only [AV.refs, List.mem_singleton] at h; simp only [AV.sub]; rw [if_neg (fun e => h e.symm)]
  | .bsl k l, h => by simp only [AV.refs, List.mem_singleton] at h; simp only [AV.sub]; rw [if_neg (fun e => h e.symm)]
  | .mp k, h => by simp only [AV.refs, List.mem_singleton] at h; simp only [AV.sub]; rw [if_neg (fun e => h e.symm)]
  | .agg cs, h => by simp only [AV.sub]; rw [subs_same n f cs (by simpa [AV.refs] using h)]
  | .tup cs, h => by simp only [AV.sub]; rw [subs_same n f cs (by simpa [AV.refs] using h)]
  | .fn g cs, h => by simp only [AV.sub]; rw [subs_same n f cs (by simpa [AV.refs] using h)]
  | .undef, _ => rfl
  | .void, _ => rfl
  | .d _, _ => rfl
  | .nil, _ => rfl
theorem subs_same (n : Nat) (f : AV → AV) : ∀ (l : List AV), n ∉ AV.refs.AV.refss l → AV.sub.AV.subs n f l = l
  | [], _ => rfl
  | x :: xs, h => by
    simp only [AV.refs.AV.refss, List.mem_append, not_or] at h
    simp only [AV.sub.AV.subs]
    rw [sub_same n f x h.1, subs_same n f xs h.2]
end
mutual
theorem lose_gone (n : Nat) : ∀ (x : AV), n ∉ (x.sub n (fun _ => .undef)).refs
  | .box k o => by simp only [AV.sub]; split <;> simp_all [AV.refs, eq_comm]
  | .elem k i o => by simp only [AV.sub]; split <;> simp_all [AV.refs, eq_comm]
  | .own k => by simp only [AV.sub]; split <;> simp_all [AV.refs, eq_comm]
  | .view k o l => by simp only [AV.sub]; split <;> simp_all [AV.refs, eq_comm]
  | .bsl k l => by simp only [AV.sub]; split <;> simp_all [AV.refs, eq_comm]
  | .mp k => by simp only [AV.sub]; split <;> simp_all [AV.refs, eq_comm]
  | .agg cs => by simp only [AV.sub, AV.refs]; exact loses_gone n cs
  | .tup cs => by simp only [AV.sub, AV.refs]; exact loses_gone n cs
  | .fn g cs => by simp only [AV.sub, AV.refs]; exact loses_gone n cs
  | .undef => by simp [AV.sub, AV.refs]
  | .void => by simp [AV.sub, AV.refs]
  | .d _ => by simp [AV.sub, AV.refs]
  | .nil => by simp [AV.sub, AV.refs]
theorem loses_gone (n : Nat) : ∀ (l : List AV), n ∉ AV.refs.AV.refss (AV.sub.AV.subs n (fun _ => .undef) l)
  | [] => by simp [AV.sub.AV.subs, AV.refs.AV.refss]
  | x :: xs => by
    simp only [AV.sub.AV.subs, AV.refs.AV.refss, List.mem_append, not_or]
    exact ⟨lose_gone n x, loses_gone n xs⟩
end
theorem StRel.rename0 {P : Program} {base out : Own} {st : St} {μ : Pl} {tmps : Array Value} {w : World} (h : StRel P base out st μ tmps w) {n : Nat} (hn : μ n = none) (hl : n < st.m.length) (e z : Nat) :
    ∃ μ', StRel P base out { t := st.t, m := st.m.set n (some (.arr e z [])) } μ' tmps w ∧ ∀ b, ownOf out μ' b → ownOf out μ b := by
  have hown : ∀ b, ownOf out (μ.upd n (some .none0)) b → ownOf out μ b := by
    rintro b (hb | ⟨k, z, l, c, hb⟩)
    · exact .inl hb
    · by_cases hk : k = n
      · subst hk; rw [Pl.upd_same] at hb; cases hb
      · rw [Pl.upd_ne μ _ hk] at hb; exact .inr ⟨k, z, l, c, hb⟩
  have hg : Goes w (ownOf out μ) w (ownOf out (μ.upd n (some .none0))) := fun b o v h1 h2 => ⟨fun hc => h1 (hown b hc), h2⟩
  have hμ : ∀ k, (μ k).isSome → μ.upd n (some .none0) k = μ k := fun k hk => Pl.upd_ne μ _ (fun e => by subst e; rw [hn] at hk; cases hk)
  refine ⟨μ.upd n (some .none0), ⟨h.size, fun i x v h1 h2 => (h.tmp i x v h1 h2).goes hg (fun n _ hs => hμ n hs), ⟨fun k b hk => ?_, fun k hk => ?_, fun k q b z l c z' l' c' h1 h2 => ?_, fun k b z l c hb => ?_⟩, h.hid.less hown, h.out, h.le⟩, hown⟩
  · rw [List.getElem?_set] at hk
    by_cases hkn : n = k
    · subst hkn
      rw [if_pos rfl, if_pos hl] at hk
      cases hk
      exact .inl ⟨Pl.upd_same μ n _, rfl⟩
    · rw [if_neg hkn] at hk
      exact (h.mem.blk k b hk).goes hg (Pl.upd_ne μ _ (Ne.symm hkn)) hμ (fun _ _ _ _ _ => rfl)
  · rw [List.getElem?_set]
    by_cases hkn : n = k
    · subst hkn; exact ⟨.arr e z [], by rw [if_pos rfl, if_pos hl]⟩
    · rw [if_neg hkn]
      rw [Pl.upd_ne μ _ (Ne.symm hkn)] at hk
      exact h.mem.dom k hk
  · by_cases hk : k = n
    · subst hk; rw [Pl.upd_same] at h1; cases h1
    · by_cases hq : q = n
      · subst hq; rw [Pl.upd_same] at h2; cases h2
      · rw [Pl.upd_ne μ _ hk] at h1
        rw [Pl.upd_ne μ _ hq] at h2
        exact h.mem.inj k q b z l c z' l' c' h1 h2
  · by_cases hk : k = n
    · subst hk; rw [Pl.upd_same] at hb; cases hb
    · rw [Pl.upd_ne μ _ hk] at hb
      exact h.mem.base k b z l c hb
def killT : Option Nat → List AV → List AV
  | none, t => t
  | some n, t => t.map (AV.sub n fun _ => .undef)
def killM : Option Nat → List (Option Blk) → List (Option Blk)
  | none, m => m
  | some n, m => subMem n (fun _ => .undef) m
def St.applyA (st : St) (dst : Option Tmp) (e : Eff) (k : Option Nat) : St := ({ t := killT k st.t, m := killM k st.m } : St).apply dst e
def appOf (P : Program) (st : St) (dst : Option Tmp) (t t' : TypeId) (s x : AV) : Option (Eff × Option Nat) := if t' = t then match dst, tslice P t with
  | some d, some e => match tsz P e, tbytes P e, (tzero P e).map (·.cells.size), elemsOf st x with
    | some z, some by_, some zl, some xs => if zl = z ∧ 0 < z ∧ 0 < by_ ∧ by_ ≤ 2 ^ 7 ∧ headIs z xs then (match s with
        | .nil => match st.fresh d with
          | true => if xs.length ≤ 2 ^ 39 then some (⟨.own d, some (d, .arr e z xs)⟩, none) else none
          | _ => none
        | .own n => match st.m[n]? with
          | some (some (.arr e' z' rows)) => if e' = e ∧ z' = z ∧ rows.length + xs.length ≤ 2 ^ 39 then some (⟨.own n, some (n, .arr e z (rows ++ xs))⟩, some n) else none
          | _ => none
        | _ => none) else none
    | _, _, _, _ => none
  | _, _ => none else none
def boxTab : List (Option Blk) → Nat → List (Nat × List Nat)
  | [], _ => []
  | some (.box row) :: l, i => (i, AV.refs.AV.refss row) :: boxTab l (i + 1)
  | none :: l, i => boxTab l (i + 1)
  | some (.arr ..) :: l, i => boxTab l (i + 1)
  | some (.mp ..) :: l, i => boxTab l (i + 1)
inductive EffA (P : Program) (o : Oper) (st : St) : Eff → Option Nat → Prop where
  | old (e : Eff) (h : EffR P o st e) : EffA P o st e none
  | app (t t' : TypeId) (s x : Operand) (e : Eff) (k : Option Nat) (ho : o.op = .call { callee := .builtin .append, args := #[s, x], argTypes := #[t, t'] })
      (h : appOf P st o.dst t t' (st.ev s) (st.ev x) = some (e, k)) : EffA P o st e k
  | appR (t t' : TypeId) (s x : Operand) (d n : Nat) (el z : Nat) (rows : List (List DV)) (hd : o.dst = some d) (hl : n < st.m.length) (hdl : d < st.t.length) (ho : o.op = .call { callee := .builtin .append, args := #[s, x], argTypes := #[t, t'] })
      (h : appOf P st o.dst t t' (st.ev s) (st.ev x) = some (⟨.own n, some (n, .arr el z rows)⟩, some n)) : EffA P o st ⟨.d (.sl rows), some (n, .arr el z [])⟩ (some n)
  | litD (d : Nat) (e z : Nat) (rows : List (List DV)) (t : TypeId) (len : Nat) (parts : Array (Nat × Operand)) (ho : o.op = .buildSlice t len parts) (hd : o.dst = some d) (hf : st.fresh d = true) (hdl : d < st.t.length)
      (h : opBuildSlice P st t len (parts.toList.map fun p => (p.1, st.ev p.2)) = some (.arr e z rows)) (hr : AV.refsAll (parts.toList.map fun p => st.ev p.2) = []) : EffA P o st ⟨.d (.sl rows), none⟩ none
theorem boxTab_mem : ∀ (m : List (Option Blk)) (i j : Nat) (row : List AV), m[j]? = some (some (.box row)) → (i + j, AV.refs.AV.refss row) ∈ boxTab m i
  | [], _, _, _, h => by simp at h
  | none :: l, i, j, row, h => by
    cases j with
    | zero => simp at h
    | succ j => simp only [boxTab]; rw [show i + (j + 1) = i + 1 + j by omega]; exact boxTab_mem l (i + 1) j row (by simpa using h)
  | some (.arr _ _ _) :: l, i, j, row, h => by
    cases j with
    | zero => simp at h
    | succ j => simp only [boxTab]; rw [show i + (j + 1) = i + 1 + j by omega]; exact boxTab_mem l (i + 1) j row (by simpa using h)
  | some (.mp _ _ _) :: l, i, j, row, h => by
    cases j with
    | zero => simp at h
    | succ j => simp only [boxTab]; rw [show i + (j + 1) = i + 1 + j by omega]; exact boxTab_mem l (i + 1) j row (by simpa using h)
  | some (.box r) :: l, i, j, row, h => by
    cases j with
    | zero => simp at h; subst h; simp [boxTab]
    | succ j => simp only [boxTab, List.mem_cons]; rw [show i + (j + 1) = i + 1 + j by omega]; exact .inr (boxTab_mem l (i + 1) j row (by simpa using h))
mutual
theorem lose_sub (n : Nat) : ∀ (x : AV), ∀ k ∈ (x.sub n (fun _ => .undef)).refs, k ∈ x.refs
  | .box k o, q, h => by simp only [AV.sub] at h; split at h <;> simp_all [AV.refs]
  | .elem k i o, q, h => by simp only [AV.sub] at h; split at h <;> simp_all [AV.refs]
  | .own k, q, h => by simp only [AV.sub] at h; split at h <;> simp_all [AV.refs]
  | .view k o l, q, h => by simp only [AV.sub] at h; split at h <;> simp_all [AV.refs]
  | .bsl k l, q, h => by simp only [AV.sub] at h; split at h <;> simp_all [AV.refs]
  | .mp k, q, h => by simp only [AV.sub] at h; split at h <;> simp_all [AV.refs]
  | .agg cs, q, h => by simp only [AV.sub, AV.refs] at h ⊢; exact loses_sub n cs q h
  | .tup cs, q, h => by simp only [AV.sub, AV.refs] at h ⊢; exact loses_sub n cs q h
  | .fn f cs, q, h => by simp only [AV.sub, AV.refs] at h ⊢; exact loses_sub n cs q h
  | .undef, _, h => h
  | .void, _, h => h
  | .d _, _, h => h
  | .nil, _, h => h
theorem loses_sub (n : Nat) : ∀ (l : List AV), ∀ k ∈ AV.refs.AV.refss (AV.sub.AV.subs n (fun _ => .undef) l), k ∈ AV.refs.AV.refss l
  | [], _, h => h
  | x :: xs, q, h => by
    simp only [AV.sub.AV.subs, AV.refs.AV.refss, List.mem_append] at h ⊢
    rcases h with h | h
    · exact .inl (lose_sub n x q h)
    · exact .inr (loses_sub n xs q h)
end
theorem Blk.lose_same {n : Nat} {b : Blk} (h : ∀ row, b = .box row → n ∉ AV.refs.AV.refss row) : b.sub n (fun _ => .undef) = b := by
  cases b with
  | box row => simp only [Blk.sub]; rw [← AV.subs_eq, loses_same n row (h row rfl)]
  | arr => rfl
  | mp => rfl
theorem killM_at {k : Option Nat} {m : List (Option Blk)} {q : Nat} (h : ∀ n row, k = some n → m[q]? = some (some (.box row)) → n ∉ AV.refs.AV.refss row) : (killM k m)[q]? = m[q]? := by
  cases k with
  | none => rfl
  | some n =>
    simp only [killM, subMem_get]
    cases hm : m[q]? with
    | none => rfl
    | some ob =>
      cases ob with
      | none => rfl
      | some b => simp only [Option.map_some]; rw [Blk.lose_same fun row hb => h n row rfl (by rw [hm, hb])]
theorem subMem_set {n : Nat} {m : List (Option Blk)} {q : Nat} {b : Blk} (h : ∀ row, b = .box row → n ∉ AV.refs.AV.refss row) : subMem n (fun _ => .undef) (m.set q (some b)) = (subMem n (fun _ => .undef) m).set q (some b) := by
  apply List.ext_getElem?
  intro i
  have hl : (subMem n (fun _ => AV.undef) m).length = m.length := by
    have : ∀ m : List (Option Blk), (subMem n (fun _ => AV.undef) m).length = m.length := by
      intro m
      induction m with
      | nil => rfl
      | cons x xs ih => cases x <;> simp [subMem, ih]
    exact this m
  rw [subMem_get, List.getElem?_set, List.getElem?_set, subMem_get, hl]
  by_cases hq : q = i
  · subst hq
    rw [if_pos rfl, if_pos rfl]
    split
    · simp only [Option.map_some]; rw [Blk.lose_same h]
    · rfl
  · rw [if_neg hq, if_neg hq]
section
variable {P : Program} {ops : Array Oper} {o : Oper} {s st : St}
theorem appOf_step {t t' : TypeId} {s x : Operand} {e : Eff} {k : Option Nat} (ho : o.op = .call { callee := .builtin .append, args := #[s, x], argTypes := #[t, t'] })
    (h : appOf P st o.dst t t' (st.ev s) (st.ev x) = some (e, k)) : stepOp P o st = some (st.applyA o.dst e k) := by
  unfold stepOp
  rw [ho]
  simp only [List.map_cons, List.map_nil]
  unfold appOf at h
  unfold opAppend
  split at h
  · rename_i htt
    rw [if_pos htt]
    split at h
    · rename_i d e' hd he
      rw [hd, he]
      simp only
      split at h
      · rename_i z by_ zl xs h1 h2 h3 h4
        rw [h1, h2, h3, h4]
        simp only
        split at h
        · rename_i hc
          rw [if_pos hc]
          split at h
          · rename_i hs
            rw [hs]
            simp only
            split at h
            · rename_i hfr
              rw [hfr]
              simp only
              split at h
              · rename_i hl
                rw [if_pos hl]
                cases h
                rfl
              · cases h
            · cases h
          · rename_i n hs
            rw [hs]
            simp only
            split at h
            · rename_i e2 z2 rows hm
              rw [hm]
              simp only
              split at h
              · rename_i hl
                rw [if_pos hl]
                cases h
                rfl
              · cases h
            · cases h
          · cases h
        · cases h
      · cases h
    · cases h
  · cases h
theorem EffA.step {e : Eff} {k : Option Nat} (h : EffA P o st e k) : StepR P o st (st.applyA o.dst e k) := by
  cases h with
  | old e h => exact h.step
  | app t t' s x _ _ ho h => exact .inr (.inl ⟨by simp [isCall, ho], appOf_step ho h⟩)
  | appR t t' s x d n el z rows hd hl hdl ho h =>
    refine .inr (.inr ⟨by simp [isCall, ho], _, appOf_step ho h, fun base out μ tmps w μ1 tmps1 w1 _ h1 => ?_⟩)
    have hn1 : (st.applyA o.dst ⟨.own n, some (n, .arr el z rows)⟩ (some n)).m[n]? = some (some (.arr el z rows)) := by
      have : (killM (some n) st.m).length = st.m.length := by
        have : ∀ m : List (Option Blk), (subMem n (fun _ => AV.undef) m).length = m.length := by
          intro m
          induction m with
          | nil => rfl
          | cons x xs ih => cases x <;> simp [subMem, ih]
        exact this _
      simp only [St.applyA, St.apply]
      rw [List.getElem?_set_self (by rw [this]; exact hl)]
    obtain ⟨μ2, h2, _, hless, hgone⟩ := h1.release n
    obtain ⟨μ3, h3, hless3⟩ := h2.rename0 (hgone ⟨_, hn1⟩) (by
      have := (List.getElem?_eq_some_iff.1 hn1).1
      unfold St.release
      rw [hn1]
      have e : ∀ (f : AV → AV) (m : List (Option Blk)), (subMem n f m).length = m.length := by
        intro f m
        induction m with
        | nil => rfl
        | cons x xs ih => cases x <;> simp [subMem, ih]
      simp only [e, List.length_set]
      exact this) el z
    refine ⟨μ3, ?_, fun b hb => hless b (hless3 b hb)⟩
    have key : ({ t := ((st.applyA o.dst ⟨.own n, some (n, .arr el z rows)⟩ (some n)).release n).t, m := ((st.applyA o.dst ⟨.own n, some (n, .arr el z rows)⟩ (some n)).release n).m.set n (some (.arr el z [])) } : St) = st.applyA o.dst ⟨.d (.sl rows), some (n, .arr el z [])⟩ (some n) := by
      have e1 : (st.applyA o.dst ⟨.own n, some (n, .arr el z rows)⟩ (some n)).release n = { t := (st.applyA o.dst ⟨.own n, some (n, .arr el z rows)⟩ (some n)).t.map (AV.sub n (snapLeaf (.arr el z rows))), m := subMem n (snapLeaf (.arr el z rows)) ((st.applyA o.dst ⟨.own n, some (n, .arr el z rows)⟩ (some n)).m.set n none) } := by
        unfold St.release
        rw [hn1]
      rw [e1]
      have ht : (st.applyA o.dst ⟨.own n, some (n, .arr el z rows)⟩ (some n)).t.map (AV.sub n (snapLeaf (.arr el z rows))) = (st.applyA o.dst ⟨.d (.sl rows), some (n, .arr el z [])⟩ (some n)).t := by
        rw [hd]
        simp only [St.applyA, St.apply, St.put, killT, List.map_set, List.map_map]
        have : (AV.sub n (snapLeaf (.arr el z rows)) ∘ AV.sub n fun _ => AV.undef) = AV.sub n fun _ => AV.undef := funext fun x => sub_same n _ _ (lose_gone n x)
        rw [this]
        simp [AV.sub, snapLeaf]
      have hm : (subMem n (snapLeaf (.arr el z rows)) ((st.applyA o.dst ⟨.own n, some (n, .arr el z rows)⟩ (some n)).m.set n none)).set n (some (.arr el z [])) = (st.applyA o.dst ⟨.d (.sl rows), some (n, .arr el z [])⟩ (some n)).m := by
        simp only [St.applyA, St.apply, killM, List.set_set]
        apply List.ext_getElem?
        intro i
        have hlen : ∀ (f : AV → AV) (m : List (Option Blk)), (subMem n f m).length = m.length := by
          intro f m
          induction m with
          | nil => rfl
          | cons x xs ih => cases x <;> simp [subMem, ih]
        rw [List.getElem?_set, List.getElem?_set, hlen, List.length_set]
        by_cases hi : n = i
        · rw [if_pos hi, if_pos hi]
        · rw [if_neg hi, if_neg hi, subMem_get, List.getElem?_set_ne hi, subMem_get]
          cases st.m[i]? with
          | none => rfl
          | some ob =>
            cases ob with
            | none => rfl
            | some b =>
              cases b with
              | box row =>
                simp only [Option.map_some, Blk.sub]
                rw [← AV.subs_eq, ← AV.subs_eq, subs_same n _ _ (loses_gone n row)]
              | arr => rfl
              | mp => rfl
      rw [ht, hm]
    rw [← key]
    exact h3
  | litD d e z rows t len parts ho hd hf hdl h hr =>
    have hst : stepOp P o st = some (st.addBlk d (.own d) (.arr e z rows)) := by
      have := (EffR.lit (P := P) d e z rows t len parts ho hd hf h hr)
      have hps : (parts.toList.map fun p => (p.1, st.ev p.2)).map (·.2) = parts.toList.map fun p => st.ev p.2 := by simp [Function.comp_def]
      unfold stepOp
      rw [ho]
      simp only [h, hd, Option.getD_some, hf, hps, hr]
      rfl
    refine .inr (.inr ⟨by simp [isCall, ho], _, hst, fun base out μ tmps w μ1 tmps1 w1 h0 h1 => ?_⟩)
    have hfr := fresh_spec hf
    have hl : d < st.m.length := (List.getElem?_eq_some_iff.1 hfr).1
    have hn1 : (st.addBlk d (.own d) (.arr e z rows)).m[d]? = some (some (.arr e z rows)) := by simp only [St.addBlk]; rw [List.getElem?_set_self hl]
    obtain ⟨μ2, h2, _, hless, hgone⟩ := h1.release d
    refine ⟨μ2, ?_, hless⟩
    have hnp := notPlaced h0.mem hfr
    have norefs : ∀ (i : Nat) x, st.t[i]? = some x → d ∉ x.refs := fun i x hx hc => by
      have hi : i < tmps.size := by rw [h0.size]; exact (List.getElem?_eq_some_iff.1 hx).1
      have := (h0.tmp i x tmps[i] hx (by simp [hi])).placed d hc
      rw [hnp] at this; cases this
    have norefm : ∀ (i : Nat) row, st.m[i]? = some (some (.box row)) → d ∉ AV.refs.AV.refss row := fun i row hrow hc => by
      obtain ⟨b, cs, ty, q1, q2, q3, q4⟩ := h0.mem.box hrow
      have many : ∀ (l : List AV), d ∈ AV.refs.AV.refss l → ∃ (j : Nat) (x : AV), l[j]? = some x ∧ d ∈ x.refs := by
        intro l
        induction l with
        | nil => intro h; simp [AV.refs.AV.refss] at h
        | cons y ys ih =>
          intro h
          simp only [AV.refs.AV.refss, List.mem_append] at h
          rcases h with h | h
          · exact ⟨0, y, rfl, h⟩
          · obtain ⟨j, x, h1, h2⟩ := ih h; exact ⟨j + 1, x, by simpa using h1, h2⟩
      obtain ⟨j, x, hx, hdx⟩ := many row hc
      have hj : j < cs.size := Nat.lt_of_lt_of_le (List.getElem?_eq_some_iff.1 hx).1 q3
      have := (q4 j x cs[j] hx (by simp [hj])).2.placed d hdx
      rw [hnp] at this; cases this
    have key : (st.addBlk d (.own d) (.arr e z rows)).release d = st.applyA o.dst ⟨.d (.sl rows), none⟩ none := by
      have e1 : (st.addBlk d (.own d) (.arr e z rows)).release d = { t := (st.addBlk d (.own d) (.arr e z rows)).t.map (AV.sub d (snapLeaf (.arr e z rows))), m := subMem d (snapLeaf (.arr e z rows)) ((st.addBlk d (.own d) (.arr e z rows)).m.set d none) } := by
        unfold St.release
        rw [hn1]
      rw [e1, hd]
      simp only [St.addBlk, St.applyA, St.apply, St.put, killT, killM, List.map_set, List.set_set]
      have ht : st.t.map (AV.sub d (snapLeaf (.arr e z rows))) = st.t := by
        apply List.ext_getElem?
        intro i
        rw [List.getElem?_map]
        cases hx : st.t[i]? with
        | none => rfl
        | some x => simp only [Option.map_some]; rw [sub_same d _ x (norefs i x hx)]
      have hm : subMem d (snapLeaf (.arr e z rows)) (st.m.set d none) = st.m := by
        apply List.ext_getElem?
        intro i
        rw [subMem_get, List.getElem?_set]
        by_cases hi : d = i
        · subst hi
          rw [if_pos rfl, if_pos hl, hfr]
          rfl
        · rw [if_neg hi]
          cases hx : st.m[i]? with
          | none => rfl
          | some ob =>
            cases ob with
            | none => rfl
            | some b =>
              cases b with
              | box row => simp only [Option.map_some, Blk.sub]; rw [← AV.subs_eq, subs_same d _ row (norefm i row hx)]
              | arr => rfl
              | mp => rfl
      rw [ht, hm]
      simp [AV.sub, snapLeaf]
    rw [← key]
    exact h2
theorem appOf_local {s s' : St} {dst : Option Tmp} {t t' : TypeId} {a x : AV} (h : Agree (a.refs ++ x.refs ++ dst.toList) s.m s'.m) : appOf P s dst t t' a x = appOf P s' dst t t' a x := by
  unfold appOf
  rw [elemsOf_local (st' := s') (h.mono fun n hn => by simp [hn])]
  cases dst with
  | none => rfl
  | some d =>
    have hfr := fresh_agree (s := s) (s' := s') (h d (by simp))
    cases a with
    | own n => simp only [h n (by simp [AV.refs])]
    | nil =>
      split
      · split
        · rename_i hd _
          cases hd
          split
          · split
            · rw [hfr]
            · rfl
          · rfl
        · rfl
      · rfl
    | _ => rfl
def EffGA (P : Program) (ops : Array Oper) (o : Oper) (s : St) (e : Eff) (k : Option Nat) : Prop := match guardT ops o with
  | none => False
  | some none => EffA P o s e k
  | some (some (t, want)) => (s.ev (.tmp t) = .d (.bool want) ∧ EffA P o s e k) ∨ ((s.ev (.tmp t) = .d (.bool (!want)) ∨ s.ev (.tmp t) = .void) ∧ e = ⟨.void, none⟩ ∧ k = none)
theorem EffGA.step {e : Eff} {k : Option Nat} (h : EffGA P ops o s e k) : StepG P ops o s (s.applyA o.dst e k) := by
  unfold EffGA at h
  unfold StepG
  unfold guardT at h
  cases hg : o.guard with
  | none => rw [hg] at h; exact h.step
  | some gw =>
    obtain ⟨j, want⟩ := gw
    rw [hg] at h
    simp only at h ⊢
    cases ht : (ops[j]?).bind (·.dst) with
    | none => rw [ht] at h; exact h.elim
    | some t =>
      rw [ht] at h
      refine ⟨t, rfl, ?_⟩
      rcases h with ⟨h1, h2⟩ | ⟨h1, rfl, rfl⟩
      · exact .inl ⟨h1, h2.step⟩
      · exact .inr ⟨h1, by cases o.dst <;> rfl⟩
structure RecA where
  i : Nat
  e : Eff
  k : Option Nat
  N : List Nat
  R : List Nat
  u : Bool
def boxE (e : Eff) : List Nat := match e.m with
  | some (_, .box row) => AV.refs.AV.refss row
  | _ => []
structure LocalA (P : Program) (ops : Array Oper) (o : Oper) (s : St) (r : RecA) : Prop where
  eff : EffGA P ops o s r.e r.k
  loc : ∀ s' : St, (∀ t ∈ o.looksAt ops, s.ev (.tmp t) = s'.ev (.tmp t)) → s.t.length = s'.t.length → s.m.length = s'.m.length → Agree r.N s.m s'.m → EffGA P ops o s' r.e r.k
  look : ∀ t ∈ o.looksAt ops, ∀ n ∈ (s.ev (.tmp t)).refs, n ∈ r.R
  whole : r.u = true → ∀ t ∈ o.looksAt ops, (s.ev (.tmp t)).whole = true
  val : ∀ n ∈ r.e.v.refs, n ∈ r.R
inductive ChainA (P : Program) (ops : Array Oper) : List RecA → St → St → Prop where
  | nil (s : St) : ChainA P ops [] s s
  | cons {r : RecA} {rs : List RecA} {s s' : St} {o : Oper} (ho : ops[r.i]? = some o) (hd : dstOk o = true) (h : LocalA P ops o s r) (ht : ChainA P ops rs (s.applyA o.dst r.e r.k) s') : ChainA P ops (r :: rs) s s'
def missB (k : Option Nat) (R : List Nat) : Bool := match k with
  | none => true
  | some n => !R.contains n
abbrev KeyA := Nat × List Nat × List Nat × Option Nat × List Nat × Bool × List Nat
def RecA.key (r : RecA) : KeyA := (r.i, r.e.name, r.N, r.k, r.R, r.u, boxE r.e)
def clearB (Bf : Nat → List Nat) (k : Option Nat) (b : KeyA) : Bool := match k with
  | none => true
  | some n => (Bf n).all fun q => !(b.2.2.1.contains q || b.2.1.contains q)
def indepA (ops : Array Oper) (Bf : Nat → List Nat) (a b : KeyA) : Bool := indepB ops (a.1, a.2.1, a.2.2.1) (b.1, b.2.1, b.2.2.1) &&
  ((a.2.2.2.1.isNone || (b.2.2.2.2.2.1 && missB a.2.2.2.1 b.2.2.2.2.1)) && ((missB b.2.2.2.1 a.2.2.2.2.1 && (a.2.2.2.1.isNone || b.2.2.2.1.isNone)) && (clearB Bf a.2.2.2.1 b && clearB Bf b.2.2.2.1 a)))
theorem apply_evA {dst : Option Tmp} {e : Eff} {k : Option Nat} {t : Tmp} (h : dst ≠ some t) (hk : ∀ n, k = some n → n ∉ (s.ev (.tmp t)).refs) : (s.applyA dst e k).ev (.tmp t) = s.ev (.tmp t) := by
  unfold St.applyA
  rw [apply_ev h]
  cases k with
  | none => rfl
  | some n =>
    have := hk n rfl
    simp only [St.ev, killT, List.getD_eq_getElem?_getD, List.getElem?_map] at this ⊢
    cases hx : s.t[t]? with
    | none => rfl
    | some x =>
      rw [hx] at this
      simp only [Option.map_some, Option.getD_some] at this ⊢
      exact lose_same n x this
theorem apply_evW {dst : Option Tmp} {e : Eff} {k : Option Nat} {t : Tmp} (h : dst ≠ some t) (hw : ((s.applyA dst e k).ev (.tmp t)).whole = true) : (s.applyA dst e k).ev (.tmp t) = s.ev (.tmp t) := by
  refine apply_evA h fun n hk => ?_
  subst hk
  unfold St.applyA at hw
  rw [apply_ev h] at hw
  simp only [St.ev, killT, List.getD_eq_getElem?_getD, List.getElem?_map] at hw ⊢
  cases hx : s.t[t]? with
  | none => simp [AV.refs]
  | some x =>
    rw [hx] at hw
    simp only [Option.map_some, Option.getD_some] at hw ⊢
    exact lose_whole n x hw
theorem apply_mA {dst : Option Tmp} {e : Eff} {k : Option Nat} {n : Nat} (h : n ∉ e.name) (hk : ∀ q row, k = some q → s.m[n]? = some (some (.box row)) → q ∉ AV.refs.AV.refss row) : (s.applyA dst e k).m[n]? = s.m[n]? := by
  unfold St.applyA
  rw [apply_m h]
  exact killM_at hk
theorem lose_set {n : Nat} {v : AV} (hv : n ∉ v.refs) (t : List AV) (a : Nat) : (t.set a v).map (AV.sub n fun _ => .undef) = (t.map (AV.sub n fun _ => .undef)).set a v := by
  rw [List.map_set, lose_same n v hv]
theorem applyA_comm {d d' : Option Tmp} {e e' : Eff} {k k' : Option Nat} (hd : ∀ t, d = some t → d' ≠ some t) (hn : ∀ n ∈ e.name, n ∉ e'.name) (h1 : ∀ n, k = some n → n ∉ e'.v.refs ∧ n ∉ boxE e') (h2 : ∀ n, k' = some n → n ∉ e.v.refs ∧ n ∉ boxE e) (h3 : k = none ∨ k' = none) :
    (s.applyA d e k).applyA d' e' k' = (s.applyA d' e' k').applyA d e k := by
  have key : ∀ (s : St) (d d' : Option Tmp) (e e' : Eff) (n : Nat), (∀ t, d = some t → d' ≠ some t) → (∀ n ∈ e.name, n ∉ e'.name) → n ∉ e'.v.refs → n ∉ boxE e' → (s.applyA d e (some n)).applyA d' e' none = (s.applyA d' e' none).applyA d e (some n) := by
    intro s d d' e e' n hd hn hv hb
    have e1 : (s.applyA d e (some n)).applyA d' e' none = (({ t := killT (some n) s.t, m := killM (some n) s.m } : St).apply d e).apply d' e' := rfl
    have e2 : (s.applyA d' e' none).applyA d e (some n) = (({ t := killT (some n) s.t, m := killM (some n) s.m } : St).apply d' e').apply d e := by
      have : ({ t := killT (some n) (s.apply d' e').t, m := killM (some n) (s.apply d' e').m } : St) = ({ t := killT (some n) s.t, m := killM (some n) s.m } : St).apply d' e' := by
        have ht : killT (some n) (s.apply d' e').t = (({ t := killT (some n) s.t, m := killM (some n) s.m } : St).apply d' e').t := by
          cases d' with
          | none => rfl
          | some a =>
            simp only [St.apply, St.put, killT]
            rw [lose_set hv]
        have hm : killM (some n) (s.apply d' e').m = (({ t := killT (some n) s.t, m := killM (some n) s.m } : St).apply d' e').m := by
          obtain ⟨v', m'⟩ := e'
          cases m' with
          | none => rfl
          | some nb =>
            obtain ⟨q, b⟩ := nb
            simp only [St.apply, killM]
            exact subMem_set fun row hr => by subst hr; simpa [boxE] using hb
        rw [ht, hm]
      show ({ t := killT (some n) (s.apply d' e').t, m := killM (some n) (s.apply d' e').m } : St).apply d e = _
      rw [this]
    rw [e1, e2]
    exact apply_comm hd hn
  cases k with
  | none =>
    cases k' with
    | none => exact apply_comm hd hn
    | some n => exact (key s d' d e' e n (fun t h h' => hd t h' h) (fun a h h' => hn a h' h) (h2 n rfl).1 (h2 n rfl).2).symm
  | some n =>
    cases k' with
    | none => exact key s d d' e e' n hd hn (h1 n rfl).1 (h1 n rfl).2
    | some n' => rcases h3 with h3 | h3 <;> cases h3
def InB (Bf : Nat → List Nat) (Ks : List Nat) (m : List (Option Blk)) : Prop := ∀ n ∈ Ks, ∀ (i : Nat) row, m[i]? = some (some (.box row)) → n ∈ AV.refs.AV.refss row → i ∈ Bf n
def okRec (Bf : Nat → List Nat) (Ks : List Nat) (r : RecA) : Prop := (∀ n, r.k = some n → n ∈ Ks) ∧ ∀ n ∈ boxE r.e, n ∈ Ks → ∀ q ∈ r.e.name, q ∈ Bf n
theorem InB.apply {Bf : Nat → List Nat} {Ks : List Nat} (h : InB Bf Ks s.m) {dst : Option Tmp} {e : Eff} {k : Option Nat} (hb : ∀ n ∈ boxE e, n ∈ Ks → ∀ q ∈ e.name, q ∈ Bf n) : InB Bf Ks (s.applyA dst e k).m := by
  intro n hn i row h1 h2
  obtain ⟨v, m⟩ := e
  have old : (killM k s.m)[i]? = some (some (.box row)) → i ∈ Bf n := by
    intro h3
    cases k with
    | none => exact h n hn i row h3 h2
    | some q =>
      simp only [killM, subMem_get, Option.map_eq_some_iff] at h3
      obtain ⟨ob, hob, b, hb1, hb2⟩ := h3
      cases b with
      | box r0 =>
        simp only [Blk.sub, Blk.box.injEq] at hb2
        subst hb1
        refine h n hn i r0 hob (loses_sub q r0 n ?_)
        rw [AV.subs_eq, hb2]
        exact h2
      | arr => simp [Blk.sub] at hb2
      | mp => simp [Blk.sub] at hb2
  cases m with
  | none => exact old h1
  | some nb =>
    obtain ⟨q, b⟩ := nb
    simp only [St.applyA, St.apply] at h1
    rw [List.getElem?_set] at h1
    split at h1
    · rename_i hqi
      split at h1
      · cases h1
        exact hb n (by simpa [boxE] using h2) hn i (by simp [Eff.name, hqi])
      · cases h1
    · exact old h1
theorem applyA_tlen (s : St) (d : Option Tmp) (e : Eff) (k : Option Nat) : (s.applyA d e k).t.length = s.t.length := by
  cases d <;> cases k <;> simp [St.applyA, St.apply, St.put, killT]
theorem applyA_mlen (s : St) (d : Option Tmp) (e : Eff) (k : Option Nat) : (s.applyA d e k).m.length = s.m.length := by
  have h : ∀ (f : AV → AV) (n : Nat) (m : List (Option Blk)), (subMem n f m).length = m.length := by
    intro f n m
    induction m with
    | nil => rfl
    | cons x xs ih => cases x <;> simp [subMem, ih]
  have hk : (killM k s.m).length = s.m.length := by cases k <;> simp [killM, h]
  obtain ⟨v, m⟩ := e
  cases m with
  | none => exact hk
  | some nb => simp [St.applyA, St.apply, hk]
theorem swapA {Bf : Nat → List Nat} {Ks : List Nat} {a b : RecA} {s s' : St} {rs : List RecA} (hi : indepA ops Bf a.key b.key = true) (hF : InB Bf Ks s.m) (ha : okRec Bf Ks a) (hb : okRec Bf Ks b) (h : ChainA P ops (a :: b :: rs) s s') : ChainA P ops (b :: a :: rs) s s' := by
  cases h with
  | cons ho hd h ht =>
  rename_i x
  cases ht with
  | cons ho' hd' h' ht =>
  rename_i y
  simp only [indepA, RecA.key, indepB, ho, ho', Bool.and_eq_true, List.all_eq_true, Bool.not_eq_true', Bool.or_eq_false_iff, List.contains_eq_mem, decide_eq_false_iff_not, Bool.or_eq_true, Option.isNone_iff_eq_none] at hi
  obtain ⟨⟨⟨h1, h2⟩, h3⟩, hk1, ⟨hk2, hk3⟩, hc1, hc2⟩ := hi
  obtain ⟨a1, a2, a3⟩ := Oper.apart_spec h1
  have miss : ∀ {k : Option Nat} {R : List Nat}, missB k R = true → ∀ n, k = some n → n ∉ R := by
    intro k R hm n hk hn
    subst hk
    simp [missB, hn] at hm
  have clear : ∀ {k : Option Nat} {r : RecA}, clearB Bf k (r.i, r.e.name, r.N, r.k, r.R, r.u, boxE r.e) = true → ∀ n, k = some n → ∀ q ∈ Bf n, q ∉ r.N ∧ q ∉ r.e.name := by
    intro k r hc n hk q hq
    subst hk
    simp only [clearB, List.all_eq_true, Bool.not_eq_true', Bool.or_eq_false_iff, List.contains_eq_mem, decide_eq_false_iff_not] at hc
    exact hc q hq
  have noBox : ∀ {k : Option Nat} {r : RecA}, okRec Bf Ks r → (∀ n, k = some n → n ∈ Ks) → clearB Bf k (r.i, r.e.name, r.N, r.k, r.R, r.u, boxE r.e) = true → ∀ n, k = some n → n ∉ boxE r.e := by
    intro k r hr hK hc n hk hn
    have : ∃ q, q ∈ r.e.name := by
      unfold boxE at hn
      split at hn
      · rename_i q row hq; exact ⟨q, by simp [Eff.name, hq]⟩
      · simp at hn
    obtain ⟨q, hq⟩ := this
    exact (clear hc n hk q (hr.2 n hn (hK n hk) q hq)).2 hq
  -- b first
  have hev1 : ∀ t ∈ y.looksAt ops, (s.applyA x.dst a.e a.k).ev (.tmp t) = s.ev (.tmp t) := by
    intro t ht
    rcases hk1 with hk | ⟨hu, _⟩
    · exact apply_evA (fun hd => a1 t hd ht) (fun n hn => by rw [hk] at hn; cases hn)
    · exact apply_evW (fun hd => a1 t hd ht) (h'.whole hu t ht)
  have hm1 : Agree b.N (s.applyA x.dst a.e a.k).m s.m := fun n hn => apply_mA (fun hc => (h2 n hc).1 hn) fun q row hk hrow hq => (clear hc1 q hk n (hF q (ha.1 q hk) n row hrow hq)).1 hn
  have hbl : LocalA P ops y s b := ⟨h'.loc s hev1 (applyA_tlen ..) (applyA_mlen ..) hm1, fun s2 he2 htl2 hml2 ha2 => h'.loc s2 (fun t ht => (hev1 t ht).trans (he2 t ht)) ((applyA_tlen ..).trans htl2) ((applyA_mlen ..).trans hml2) (fun n hn => (hm1 n hn).trans (ha2 n hn)),
    fun t ht n hn => h'.look t ht n (by rw [hev1 t ht]; exact hn), fun hu t ht => by rw [← hev1 t ht]; exact h'.whole hu t ht, h'.val⟩
  -- then a
  have hev2 : ∀ t ∈ x.looksAt ops, s.ev (.tmp t) = (s.applyA y.dst b.e b.k).ev (.tmp t) := fun t ht => (apply_evA (fun hd => a3 t hd ht) (fun n hn hc => miss hk2 n hn (h.look t ht n hc))).symm
  have hm2 : Agree a.N s.m (s.applyA y.dst b.e b.k).m := fun n hn => (apply_mA (fun hc => (h3 n hc).1 hn) fun q row hk hrow hq => (clear hc2 q hk n (hF q (hb.1 q hk) n row hrow hq)).1 hn).symm
  have hal : LocalA P ops x (s.applyA y.dst b.e b.k) a := ⟨h.loc _ hev2 (applyA_tlen ..).symm (applyA_mlen ..).symm hm2, fun s2 he2 htl2 hml2 ha2 => h.loc s2 (fun t ht => (hev2 t ht).trans (he2 t ht)) ((applyA_tlen ..).symm.trans htl2) ((applyA_mlen ..).symm.trans hml2) (fun n hn => (hm2 n hn).trans (ha2 n hn)),
    fun t ht n hn => h.look t ht n (by rw [hev2 t ht]; exact hn), fun hu t ht => by rw [← hev2 t ht]; exact h.whole hu t ht, h.val⟩
  refine .cons ho' hd' hbl (.cons ho hd hal ?_)
  rw [← applyA_comm (fun t hd hd2 => a2 t hd hd2) (fun n hn => (h2 n hn).2) (fun n hn => ⟨fun hc => ?_, noBox hb ha.1 hc1 n hn⟩) (fun n hn => ⟨fun hc => miss hk2 n hn (h.val n hc), noBox ha hb.1 hc2 n hn⟩) hk3]
  · exact ht
  · rcases hk1 with hk | ⟨_, hk⟩
    · rw [hk] at hn; cases hn
    · exact miss hk n hn (h'.val n hc)
theorem bubbleA {Bf : Nat → List Nat} {Ks : List Nat} {r : RecA} {B : List RecA} {s' : St} (hr : okRec Bf Ks r) : ∀ (A : List RecA) (s : St), InB Bf Ks s.m → (∀ a ∈ A, okRec Bf Ks a) → (∀ a ∈ A, indepA ops Bf a.key r.key = true) → ChainA P ops (A ++ r :: B) s s' → ChainA P ops (r :: (A ++ B)) s s'
  | [], _, _, _, _, h => h
  | a :: A, s, hF, hA, hi, h => by
    cases h with
    | cons ho hd h ht =>
    have := bubbleA hr A _ (hF.apply (hA a (by simp)).2) (fun b hb => hA b (by simp [hb])) (fun b hb => hi b (by simp [hb])) ht
    exact swapA (hi a (by simp)) hF (hA a (by simp)) hr (.cons ho hd h this)
def FreeChain (P : Program) (ops : Array Oper) (Bf : Nat → List Nat) (Ks : List Nat) (rs : List RecA) (s s' : St) : Prop := InB Bf Ks s.m ∧ (∀ r ∈ rs, okRec Bf Ks r) ∧ ChainA P ops rs s s'
def pairsA (ops : Array Oper) (Bf : Nat → List Nat) (ms : List Nat) : List KeyA → Bool
  | [] => true
  | a :: l => l.all (fun b => (ms.getD b.1 0).testBit a.1 || indepA ops Bf a b) && pairsA ops Bf ms l
theorem pairsA_spec {Bf : Nat → List Nat} (hm : ∀ k i, ((masks ops.toList []).getD k 0).testBit i = true → Anc ops i k) : ∀ {rs : List RecA}, pairsA ops Bf (masks ops.toList []) (rs.map RecA.key) = true → rs.Pairwise (fun a b => Anc ops a.i b.i ∨ indepA ops Bf a.key b.key = true)
  | [], _ => .nil
  | a :: rs, h => by
    simp only [List.map_cons, pairsA, Bool.and_eq_true, List.all_eq_true, List.mem_map, forall_exists_index, and_imp, forall_apply_eq_imp_iff₂, Bool.or_eq_true] at h
    refine .cons (fun b hb => ?_) (pairsA_spec hm h.2)
    rcases h.1 b hb with h1 | h1
    · exact .inl (hm _ _ h1)
    · exact .inr h1
def inBoxes (B0 : List (Nat × List Nat)) (acc : List KeyA) (n : Nat) : List Nat := (B0.flatMap fun p => if p.2.contains n then [p.1] else []) ++ acc.flatMap fun b => if b.2.2.2.2.2.2.contains n then b.2.1 else []
def killsOf (rs : List RecA) : List Nat := rs.filterMap (·.k)
theorem inBoxes_spec (rs : List RecA) : InB (inBoxes (boxTab s.m 0) (rs.map RecA.key)) (killsOf rs) s.m ∧ ∀ r ∈ rs, okRec (inBoxes (boxTab s.m 0) (rs.map RecA.key)) (killsOf rs) r := by
  refine ⟨fun n _ i row h1 h2 => ?_, fun r hr => ⟨fun n hk => List.mem_filterMap.2 ⟨r, hr, hk⟩, fun n hn _ q hq => ?_⟩⟩
  · have := boxTab_mem s.m 0 i row h1
    rw [Nat.zero_add] at this
    refine List.mem_append_left _ (List.mem_flatMap.2 ⟨_, this, ?_⟩)
    simp [h2]
  · refine List.mem_append_right _ (List.mem_flatMap.2 ⟨r.key, List.mem_map.2 ⟨r, hr, rfl⟩, ?_⟩)
    simp [RecA.key, hn, hq]
end
def lookRefs (s : St) (ops : Array Oper) (o : Oper) : List Nat := (o.looksAt ops).flatMap fun t => (s.ev (.tmp t)).refs
def lookWhole (s : St) (ops : Array Oper) (o : Oper) : Bool := (o.looksAt ops).all fun t => (s.ev (.tmp t)).whole
def relB (rl : List Nat) (dst : Option Tmp) : Bool := match dst with
  | some d => rl.contains d
  | none => false
def relE (rl : List Nat) (dst : Option Tmp) (s : St) (r : Eff × Option Nat) : Option (Eff × Option Nat) := if relB rl dst = true then (match r, dst with
    | (⟨.own n, some (n', .arr el z rows)⟩, some n''), some d => match s.m[n]?, s.t[d]? with
      | some _, some _ => if n = n' ∧ n = n'' then some (⟨.d (.sl rows), some (n, .arr el z [])⟩, some n) else none
      | _, _ => none
    | _, _ => none) else some r
def effA (P : Program) (rl : List Nat) (o : Oper) (s : St) (C : Eff → Option Nat → List Nat → Prop) : Prop := match o.op with
  | .call { callee := .builtin .append, args, argTypes } => match argTypes.toList, args.toList with
    | [t, t'], [a, x] => bindK (appOf P s o.dst t t' (s.ev a) (s.ev x)) fun r => bindK (relE rl o.dst s r) fun r => C r.1 r.2 ((s.ev a).refs ++ (s.ev x).refs ++ o.dst.toList)
    | _, _ => False
  | .buildSlice t len parts => if relB rl o.dst = true then (bindK o.dst fun d => bindK (opBuildSlice P s t len (parts.toList.map fun p => (p.1, s.ev p.2))) fun b =>
      AV.refsAll (parts.toList.map fun p => s.ev p.2) = [] ∧ s.fresh d = true ∧ match s.t[d]?, b with
        | some _, .arr _ _ rows => C ⟨.d (.sl rows), none⟩ none [d]
        | _, _ => False) else effK P o s fun e N => C e none N
  | _ => effK P o s fun e N => C e none N
def guardRunA (P : Program) (rl : List Nat) (t : AV) (want : Bool) (o : Oper) (s : St) (R : Eff → Option Nat → List Nat → Prop) : Prop := ∀ K' : Eff → Option Nat → List Nat → Prop, (∀ e k N, R e k N → K' e k N) → guardK t want (effA P rl o s K') (K' ⟨.void, none⟩ none [])
def runA (P : Program) (rl : List Nat) (ops : Array Oper) (B0 : List (Nat × List Nat)) : List Oper → Nat → List KeyA → St → (St → Prop) → Prop
  | [], _, acc, s, K => pairsA ops (inBoxes B0 acc.reverse) (masks ops.toList []) acc.reverse = true ∧ K s
  | o :: os, i, acc, s, K => dstOk o = true ∧ match guardT ops o with
    | none => False
    | some none => effA P rl o s fun e k N => runA P rl ops B0 os (i + 1) ((i, e.name, N, k, lookRefs s ops o ++ e.v.refs, lookWhole s ops o, boxE e) :: acc) (s.applyA o.dst e k) K
    | some (some (t, want)) => guardRunA P rl (s.ev (.tmp t)) want o s fun e k N => runA P rl ops B0 os (i + 1) ((i, e.name, N, k, lookRefs s ops o ++ e.v.refs, lookWhole s ops o, boxE e) :: acc) (s.applyA o.dst e k) K
section
variable {P : Program} {rd : Option Nat} {n : Nat} {J : Env} {k : Option Nat} {st : St} {ops : Array Oper} {Q : Exit → Option Nat → St → Prop} {o : Oper} {s : St}
theorem effA_spec {rl : List Nat} {C : Eff → Option Nat → List Nat → Prop} (h : effA P rl o s C) : ∃ e k N, (EffA P o s e k ∧ ∀ s' : St, (∀ x ∈ o.op.operands, s.ev x = s'.ev x) → s.t.length = s'.t.length → s.m.length = s'.m.length → Agree N s.m s'.m → EffA P o s' e k) ∧ C e k N := by
  unfold effA at h
  split at h
  · rename_i ho
    split at h
    · rename_i hts hargs
      obtain ⟨⟨e, k⟩, h1, ⟨e', k'⟩, hr, h3⟩ := h
      have e1 := toList_two hts
      have e2 := toList_two hargs
      subst e1; subst e2
      unfold relE at hr
      split at hr
      · split at hr
        · rename_i n n' el z rows n'' d hrr hdd
          split at hr
          · rename_i y1 y2 hm ht
            split at hr
            · rename_i hnn
              obtain ⟨rfl, rfl⟩ := hnn
              cases hrr
              cases hr
              have hl := (List.getElem?_eq_some_iff.1 hm).1
              have hdl := (List.getElem?_eq_some_iff.1 ht).1
              refine ⟨_, _, _, ⟨.appR _ _ _ _ d n el z rows hdd hl hdl ho h1, fun s' he htl hml hag => .appR _ _ _ _ d n el z rows hdd (by rw [← hml]; exact hl) (by rw [← htl]; exact hdl) ho ?_⟩, h3⟩
              rw [← he _ (by rw [ho]; simp [Op.operands, Call.operands]), ← he _ (by rw [ho]; simp [Op.operands, Call.operands]), ← appOf_local hag]
              exact h1
            · cases hr
          · cases hr
        · cases hr
      · cases hr
        refine ⟨e, k, _, ⟨.app _ _ _ _ e k ho h1, fun s' he _ _ hag => .app _ _ _ _ e k ho ?_⟩, h3⟩
        rw [← he _ (by rw [ho]; simp [Op.operands, Call.operands]), ← he _ (by rw [ho]; simp [Op.operands, Call.operands]), ← appOf_local hag]
        exact h1
    · exact h.elim
  · rename_i t len parts ho
    split at h
    · obtain ⟨d, hd, b, hb, hr, hf, h⟩ := h
      split at h
      · rename_i y e z rows ht
        have hdl := (List.getElem?_eq_some_iff.1 ht).1
        refine ⟨_, _, _, ⟨.litD d e z rows t len parts ho hd hf hdl hb hr, fun s' he htl _ hag => ?_⟩, h⟩
        have hev : ∀ p ∈ parts.toList, s.ev p.2 = s'.ev p.2 := fun p hp => he p.2 (by rw [ho]; simp only [Op.operands, List.mem_toArray, List.mem_map]; exact ⟨p, hp, rfl⟩)
        have e1 : (parts.toList.map fun p => (p.1, s'.ev p.2)) = parts.toList.map fun p => (p.1, s.ev p.2) := List.map_congr_left fun p hp => by rw [hev p hp]
        have e2 : (parts.toList.map fun p => s'.ev p.2) = parts.toList.map fun p => s.ev p.2 := List.map_congr_left fun p hp => by rw [hev p hp]
        have hps : (parts.toList.map fun p => (p.1, s.ev p.2)).map (·.2) = parts.toList.map fun p => s.ev p.2 := by simp [Function.comp_def]
        refine .litD d e z rows t len parts ho hd (by rw [← fresh_agree (hag d (by simp))]; exact hf) (by rw [← htl]; exact hdl) ?_ (by rw [e2]; exact hr)
        rw [e1, ← hb]
        unfold opBuildSlice
        rw [hps, hr]
        simp only [rowsOf_local (s := s') (s' := s) hr, St.arrs]
      · exact h.elim
    · obtain ⟨e, N, h1, h2⟩ := effK_spec h
      exact ⟨e, none, N, ⟨.old e h1.1, fun s' he _ _ hag => .old e (h1.2 s' he hag)⟩, h2⟩
  · obtain ⟨e, N, h1, h2⟩ := effK_spec h
    exact ⟨e, none, N, ⟨.old e h1.1, fun s' he _ _ hag => .old e (h1.2 s' he hag)⟩, h2⟩
theorem local_of {e : Eff} {k : Option Nat} {N : List Nat} {i : Nat} (h1 : EffGA P ops o s e k) (h2 : ∀ s' : St, (∀ t ∈ o.looksAt ops, s.ev (.tmp t) = s'.ev (.tmp t)) → s.t.length = s'.t.length → s.m.length = s'.m.length → Agree N s.m s'.m → EffGA P ops o s' e k) :
    LocalA P ops o s ⟨i, e, k, N, lookRefs s ops o ++ e.v.refs, lookWhole s ops o⟩ :=
  ⟨h1, h2, fun t ht n hn => List.mem_append_left _ (by simp only [lookRefs, List.mem_flatMap]; exact ⟨t, ht, hn⟩), fun hu t ht => by simp only [lookWhole, List.all_eq_true] at hu; exact hu t ht, fun n hn => List.mem_append_right _ hn⟩
theorem runA_chain {rl : List Nat} {B0 : List (Nat × List Nat)} : ∀ (os : List Oper) (i : Nat) (acc : List KeyA) (s : St) (K : St → Prop), (∀ j o, os[j]? = some o → ops[i + j]? = some o) → runA P rl ops B0 os i acc s K →
    ∃ rs s', ChainA P ops rs s s' ∧ rs.map (·.i) = List.range' i os.length ∧ pairsA ops (inBoxes B0 (acc.reverse ++ rs.map RecA.key)) (masks ops.toList []) (acc.reverse ++ rs.map RecA.key) = true ∧ K s'
  | [], i, acc, s, K, _, h => ⟨[], s, .nil s, rfl, by simpa using h.1, h.2⟩
  | o :: os, i, acc, s, K, hos, h => by
    obtain ⟨hd, h⟩ := h
    have hos' : ∀ j o', os[j]? = some o' → ops[i + 1 + j]? = some o' := fun j o' hj => by have := hos (j + 1) o' (by simpa using hj); rwa [show i + 1 + j = i + (j + 1) by omega]
    have ho : ops[i]? = some o := by simpa using hos 0 o (by simp)
    have fin : ∀ (e : Eff) (k : Option Nat) (N : List Nat), LocalA P ops o s ⟨i, e, k, N, lookRefs s ops o ++ e.v.refs, lookWhole s ops o⟩ →
        (∃ rs s', ChainA P ops rs (s.applyA o.dst e k) s' ∧ rs.map (·.i) = List.range' (i + 1) os.length ∧ pairsA ops (inBoxes B0 (((i, e.name, N, k, lookRefs s ops o ++ e.v.refs, lookWhole s ops o, boxE e) :: acc).reverse ++ rs.map RecA.key)) (masks ops.toList []) (((i, e.name, N, k, lookRefs s ops o ++ e.v.refs, lookWhole s ops o, boxE e) :: acc).reverse ++ rs.map RecA.key) = true ∧ K s') →
        ∃ rs s', ChainA P ops rs s s' ∧ rs.map (·.i) = List.range' i (o :: os).length ∧ pairsA ops (inBoxes B0 (acc.reverse ++ rs.map RecA.key)) (masks ops.toList []) (acc.reverse ++ rs.map RecA.key) = true ∧ K s' := by
      rintro e k N hl ⟨rs, s', h1, h2, h3, h4⟩
      refine ⟨⟨i, e, k, N, lookRefs s ops o ++ e.v.refs, lookWhole s ops o⟩ :: rs, s', .cons ho hd hl h1, by simp [h2, List.range'_succ], ?_, h4⟩
      simpa [RecA.key] using h3
    cases hg : guardT ops o with
    | none => rw [hg] at h; exact h.elim
    | some g =>
      rw [hg] at h
      cases g with
      | none =>
        obtain ⟨e, k, N, ⟨h1, h1'⟩, h2⟩ := effA_spec h
        refine fin e k N (local_of (by simp only [EffGA, hg]; exact h1) fun s' he htl hml ha => ?_) (runA_chain os (i + 1) _ _ K hos' h2)
        simp only [EffGA, hg]
        exact h1' s' (ev_looks he) htl hml ha
      | some tw =>
        obtain ⟨t, want⟩ := tw
        obtain ⟨j, hj, ht⟩ := guardT_some hg
        have hmem : t ∈ o.looksAt ops := List.mem_append_right _ (by rw [hj]; simp [ht])
        have h := h _ fun e k N hs => runA_chain os (i + 1) _ _ K hos' hs
        unfold guardK at h
        split at h
        · rename_i b hev
          by_cases hb : b = want
          · obtain ⟨e, k, N, ⟨h1, h1'⟩, h2⟩ := effA_spec (h.1 hb)
            refine fin e k N (local_of (by simp only [EffGA, hg]; exact .inl ⟨by rw [hev, hb], h1⟩) fun s' he htl hml ha => ?_) h2
            simp only [EffGA, hg]
            exact .inl ⟨by rw [← he t hmem, hev, hb], h1' s' (ev_looks he) htl hml ha⟩
          · have hb' : b = !want := by cases b <;> cases want <;> simp_all
            refine fin _ _ _ (local_of (by unfold EffGA; rw [hg]; exact .inr ⟨.inl (by rw [hev, hb']), rfl, rfl⟩) fun s' he htl hml ha => ?_) (h.2 hb')
            unfold EffGA; rw [hg]
            exact .inr ⟨.inl (by rw [← he t hmem, hev, hb']), rfl, rfl⟩
        · rename_i hev
          refine fin _ _ _ (local_of (by unfold EffGA; rw [hg]; exact .inr ⟨.inr hev, rfl, rfl⟩) fun s' he htl hml ha => ?_) h
          unfold EffGA; rw [hg]
          exact .inr ⟨.inr (by rw [← he t hmem, hev]), rfl, rfl⟩
        · exact h.elim
theorem walk_drawnA {rl : List Nat} {id : Nat} (hfol : P.follows .mixedOrders = true) (hback : backB ops = true) (h : runA P rl ops (boxTab st.m 0) ops.toList 0 [] st (Q .normal k)) : Walk P rd n J (.region id ops true) k st Q := fun B base out μ tmps w ds _ hst hJ hM => by
  obtain ⟨rs, s', h1, h2, h3, h4⟩ := runA_chain _ _ _ _ _ (fun j o hj => by simpa using hj) h
  simp only [List.reverse_nil, List.nil_append] at h3
  have hfree := inBoxes_spec (s := st) rs
  refine region_drawG (ix := RecA.i) (I := fun a b => indepA ops (inBoxes (boxTab st.m 0) (rs.map RecA.key)) a.key b.key = true) (C := FreeChain P ops (inBoxes (boxTab st.m 0) (rs.map RecA.key)) (killsOf rs)) (fun s s' h => by obtain ⟨_, _, h⟩ := h; cases h; rfl) ?_ ?_ hfol hback (by rw [h2, List.range_eq_range']; simp)
    (pairsA_spec (fun k i => masks_spec ops.toList [] (fun k i hk => by simp at hk) (fun k o hk => by simpa using hk) k i) h3) ⟨hfree.1, hfree.2, h1⟩ hst fun tmps' μ' w' h5 hk hS => .step hJ h5 hk hS hM h4
  · rintro r rs' s s' ⟨hF, hR, hc⟩
    cases hc with
    | cons ho hd hl ht => exact ⟨_, _, ho, hd, hl.eff.step, hF.apply (hR r (by simp)).2, fun q hq => hR q (by simp [hq]), ht⟩
  · rintro r B s s' A hA ⟨hF, hR, hc⟩
    refine ⟨hF, fun q hq => hR q ?_, bubbleA (hR r (by simp)) A s hF (fun a ha => hR a (by simp [ha])) hA hc⟩
    simp only [List.mem_cons, List.mem_append] at hq ⊢
    rcases hq with rfl | hq | hq
    · exact .inr (.inl rfl)
    · exact .inl hq
    · exact .inr (.inr hq)
theorem walkL_drawnR {id : Nat} {cs : List Code} (rl : List Nat) (hfol : P.follows .mixedOrders = true) (hback : backB ops = true) (h : ∀ K : St → Prop, (∀ s, WalkL P rd n J cs k s Q → K s) → runA P rl ops (boxTab st.m 0) ops.toList 0 [] st K) : WalkL P rd n J (.region id ops true :: cs) k st Q :=
  walk_drawnA hfol hback (h _ fun _ h => h)
theorem walkL_drawnA {id : Nat} {cs : List Code} (hfol : P.follows .mixedOrders = true) (hback : backB ops = true) (h : ∀ K : St → Prop, (∀ s, WalkL P rd n J cs k s Q → K s) → runA P [] ops (boxTab st.m 0) ops.toList 0 [] st K) : WalkL P rd n J (.region id ops true :: cs) k st Q :=
  walkL_drawnR [] hfol hback h
end
def oldA (C : Eff → Option Nat → List Nat → Prop) (e : Eff) (N : List Nat) : Prop := C e none N
theorem effA_eq (P : Program) (rl : List Nat) (o : Oper) (s : St) (C : Eff → Option Nat → List Nat → Prop) : effA P rl o s C = (match o.op with
  | .call { callee := .builtin .append, args, argTypes } => match argTypes.toList, args.toList with
    | [t, t'], [a, x] => bindK (appOf P s o.dst t t' (s.ev a) (s.ev x)) fun r => bindK (relE rl o.dst s r) fun r => C r.1 r.2 ((s.ev a).refs ++ (s.ev x).refs ++ o.dst.toList)
    | _, _ => False
  | .buildSlice t len parts => if relB rl o.dst = true then (bindK o.dst fun d => bindK (opBuildSlice P s t len (parts.toList.map fun p => (p.1, s.ev p.2))) fun b =>
      AV.refsAll (parts.toList.map fun p => s.ev p.2) = [] ∧ s.fresh d = true ∧ match s.t[d]?, b with
        | some _, .arr _ _ rows => C ⟨.d (.sl rows), none⟩ none [d]
        | _, _ => False) else effK P o s (oldA C)
  | _ => effK P o s (oldA C)) := rfl
theorem effA_mono {P : Program} {rl : List Nat} {o : Oper} {s : St} {C C' : Eff → Option Nat → List Nat → Prop} (h : effA P rl o s C) (hC : ∀ e k N, C e k N → C' e k N) : effA P rl o s C' := by
  unfold effA at h ⊢
  split
  · rename_i ho
    simp only [ho] at h
    split at h
    · obtain ⟨r, h1, r', h2, h3⟩ := h
      exact ⟨r, h1, r', h2, hC _ _ _ h3⟩
    · exact h.elim
  · rename_i ho
    simp only [ho] at h
    split at h
    · rename_i hr
      rw [if_pos hr]
      obtain ⟨d, hd, b, hb, h1, h2, h3⟩ := h
      refine ⟨d, hd, b, hb, h1, h2, ?_⟩
      split at h3
      · exact hC _ _ _ h3
      · exact h3.elim
    · rename_i hr
      rw [if_neg hr]
      exact effK_mono h fun e N hc => hC _ _ _ hc
  · rename_i hno hno2
    split at h
    · rename_i ho; exact absurd ho (hno _ _)
    · rename_i ho; exact absurd ho (hno2 _ _ _)
    · exact effK_mono h fun e N hc => hC _ _ _ hc
theorem guardRunA_tt (P : Program) (rl : List Nat) (o : Oper) (s : St) (R : Eff → Option Nat → List Nat → Prop) : guardRunA P rl (.d (.bool true)) true o s R = effA P rl o s R := by
  apply propext
  exact ⟨fun h => (h R (fun _ _ _ h => h)).1 rfl, fun h K' hK => ⟨fun _ => effA_mono h hK, fun e => (by cases e)⟩⟩
theorem guardRunA_ff (P : Program) (rl : List Nat) (o : Oper) (s : St) (R : Eff → Option Nat → List Nat → Prop) : guardRunA P rl (.d (.bool false)) false o s R = effA P rl o s R := by
  apply propext
  exact ⟨fun h => (h R (fun _ _ _ h => h)).1 rfl, fun h K' hK => ⟨fun _ => effA_mono h hK, fun e => (by cases e)⟩⟩
theorem guardRunA_tf (P : Program) (rl : List Nat) (o : Oper) (s : St) (R : Eff → Option Nat → List Nat → Prop) : guardRunA P rl (.d (.bool true)) false o s R = R ⟨.void, none⟩ none [] := by
  apply propext
  exact ⟨fun h => (h R (fun _ _ _ h => h)).2 rfl, fun h K' hK => ⟨fun e => (by cases e), fun _ => hK _ _ _ h⟩⟩
theorem guardRunA_ft (P : Program) (rl : List Nat) (o : Oper) (s : St) (R : Eff → Option Nat → List Nat → Prop) : guardRunA P rl (.d (.bool false)) true o s R = R ⟨.void, none⟩ none [] := by
  apply propext
  exact ⟨fun h => (h R (fun _ _ _ h => h)).2 rfl, fun h K' hK => ⟨fun e => (by cases e), fun _ => hK _ _ _ h⟩⟩
theorem guardRunA_void (P : Program) (rl : List Nat) (want : Bool) (o : Oper) (s : St) (R : Eff → Option Nat → List Nat → Prop) : guardRunA P rl .void want o s R = R ⟨.void, none⟩ none [] := by
  apply propext
  exact ⟨fun h => h R (fun _ _ _ h => h), fun h K' hK => hK _ _ _ h⟩
def contA (P : Program) (rl : List Nat) (ops : Array Oper) (B0 : List (Nat × List Nat)) (os : List Oper) (i : Nat) (acc : List KeyA) (s : St) (o : Oper) (K : St → Prop) (e : Eff) (k : Option Nat) (N : List Nat) : Prop :=
  runA P rl ops B0 os (i + 1) ((i, e.name, N, k, lookRefs s ops o ++ e.v.refs, lookWhole s ops o, boxE e) :: acc) (s.applyA o.dst e k) K
theorem runA_nil (P : Program) (rl : List Nat) (ops : Array Oper) (B0 : List (Nat × List Nat)) (i : Nat) (acc : List KeyA) (s : St) (K : St → Prop) : runA P rl ops B0 [] i acc s K = (pairsA ops (inBoxes B0 acc.reverse) (masks ops.toList []) acc.reverse = true ∧ K s) := rfl
theorem runA_cons (P : Program) (rl : List Nat) (ops : Array Oper) (B0 : List (Nat × List Nat)) (o : Oper) (os : List Oper) (i : Nat) (acc : List KeyA) (x : AV) (t : List AV) (m : List (Option Blk)) (K : St → Prop) : runA P rl ops B0 (o :: os) i acc ⟨x :: t, m⟩ K = (dstOk o = true ∧ match guardT ops o with
    | none => False
    | some none => effA P rl o ⟨x :: t, m⟩ (contA P rl ops B0 os i acc ⟨x :: t, m⟩ o K)
    | some (some (t', want)) => guardRunA P rl ((⟨x :: t, m⟩ : St).ev (.tmp t')) want o ⟨x :: t, m⟩ (contA P rl ops B0 os i acc ⟨x :: t, m⟩ o K)) := rfl
theorem killT_none (t : List AV) : killT none t = t := rfl
theorem killT_some (n : Nat) (t : List AV) : killT (some n) t = t.map (AV.sub n fun _ => .undef) := rfl
theorem killM_none (m : List (Option Blk)) : killM none m = m := rfl
theorem killM_some (n : Nat) (m : List (Option Blk)) : killM (some n) m = subMem n (fun _ => .undef) m := rfl
theorem relE_nil (dst : Option Tmp) (s : St) (r : Eff × Option Nat) : relE [] dst s r = some r := by cases dst <;> rfl
theorem relB_nil (dst : Option Tmp) : relB [] dst = false := by cases dst <;> rfl
theorem relB_some (rl : List Nat) (d : Tmp) : relB rl (some d) = rl.contains d := rfl
attribute [go_sem] relE_nil relB_nil relB_some relE List.contains_nil
attribute [go_sem] List.contains_cons runA_nil runA_cons contA oldA effA_eq appOf boxTab killM_none killM_some St.applyA killT_none killT_some guardRunA_tt guardRunA_ff guardRunA_tf guardRunA_ft guardRunA_void
theorem CallR.made {P : Program} {st : St} {dst : Option Tmp} {g : FuncId} {xs : List AV} {ds : List DV} {r : AV} {m1 : List Blk} (news : List Nat) (hf : FnG P g [] [] (ds.map AV.d) r m1) (hd : reifyAll st xs = some ds) (hn : news.Nodup) (hl : news.length = m1.length)
    (hnew : news.all st.fresh = true) (hx : AV.refsAll xs = []) : CallR P st dst g xs (({ st with m := putM news (m1.map (Blk.mapN fun i => news[i]?)) st.m } : St).put dst (r.mapN fun i => news[i]?)) := by
  obtain ⟨h1, h2⟩ := allSome_spec hd
  have := CallR.gen (dst := dst) (st := st) (xs := xs) [] [] (ds.map AV.d) r m1 [] news [] [] hf (by simpa using hn) rfl (by simpa using hl) (by intro i b h; simp at h) (fun n hn => fresh_spec (List.all_eq_true.1 hnew n hn)) (by simpa using h1) (fun i x y hi hy => by
    simp only [List.getElem?_map, Option.map_eq_some_iff] at hy
    obtain ⟨d, hy, rfl⟩ := hy
    have h3 := h2 i d hy
    simp only [List.getElem?_map, Option.map_eq_some_iff] at h3
    obtain ⟨x', hx', hr⟩ := h3
    rw [hi] at hx'
    cases hx'
    refine .inl ⟨d, rfl, hr, fun n hn => ?_⟩
    have := refsAll_nil hx (List.mem_of_getElem? hi)
    rw [this] at hn
    cases hn) (by simp) (by intro n hn; simp at hn) (by intro i n h; simp at h) (.inl rfl)
  exact this
theorem weak_release (l : List Nat) (st : St) : Weak st (releaseAll l st) := by
  intro P base out μ tmps w h
  obtain ⟨μ', h1, _, _, h2, _⟩ := releaseAll_sound l st μ h
  exact ⟨μ', h1, h2⟩
theorem walkL_release {P : Program} {rd : Option Nat} {n : Nat} {J : Env} {c : Code} {cs : List Code} {k : Option Nat} {st : St} {Q : Exit → Option Nat → St → Prop} (l : List Nat) (h : WalkL P rd n J (c :: cs) k (releaseAll l st) Q) : WalkL P rd n J (c :: cs) k st Q :=
  walkL_weak (weak_release l st) h
theorem CallR.inPlace {P : Program} {st : St} {dst : Option Tmp} {g : FuncId} {xs : List AV} (n : Nat) {b0 b0' b1 : Blk} {args : List AV} {r : AV} (hf : FnG P g [b0] [0] args r [b1]) (hn : st.m[n]? = some (some b0')) (hb : b0 = b0'.mapN (inv [n])) (hla : xs.length = args.length)
    (ha : ∀ (i : Nat) x y, xs[i]? = some x → args[i]? = some y → argG st [n] [] x y) : CallR P st dst g xs (({ st with m := st.m.set n (some (b1.mapN fun i => [n][i]?)) } : St).put dst (r.mapN fun i => [n][i]?)) := by
  have := CallR.gen (dst := dst) (st := st) [b0] [0] args r [b1] [n] [] [] [] hf (by simp) rfl rfl (fun i b hi => by
    cases i with
    | zero => cases hi; exact ⟨n, b0', rfl, hn, hb⟩
    | succ i => simp at hi) (by simp) hla ha (by simp) (by intro n hn; simp at hn) (fun i k hi _ => by
    cases i with
    | zero => simp
    | succ i => simp at hi) (.inl rfl)
  exact this
end Go.Ab
/- The program's type table, as the engine asks for it. -/
namespace Go.Ab
open Go.RowKit Go.Proofs
theorem tab_tsz_0 : tsz Tryz.prog 0 = (some 1) := by kernel_rfl
attribute [go_sem] tab_tsz_0
theorem tab_tbytes_0 : tbytes Tryz.prog 0 = (some 0) := by kernel_rfl
attribute [go_sem] tab_tbytes_0
theorem tab_tagg_0 : tagg Tryz.prog 0 = (some false) := by kernel_rfl
attribute [go_sem] tab_tagg_0
theorem tab_tsz_1 : tsz Tryz.prog 1 = (some 1) := by kernel_rfl
attribute [go_sem] tab_tsz_1
theorem tab_tbytes_1 : tbytes Tryz.prog 1 = (some 8) := by kernel_rfl
attribute [go_sem] tab_tbytes_1
theorem tab_tagg_1 : tagg Tryz.prog 1 = (some false) := by kernel_rfl
attribute [go_sem] tab_tagg_1
theorem tab_tsz_2 : tsz Tryz.prog 2 = (some 1) := by kernel_rfl
attribute [go_sem] tab_tsz_2
theorem tab_tbytes_2 : tbytes Tryz.prog 2 = (some 8) := by kernel_rfl
attribute [go_sem] tab_tbytes_2
theorem tab_tagg_2 : tagg Tryz.prog 2 = (some false) := by kernel_rfl
attribute [go_sem] tab_tagg_2
theorem tab_tint_2 : tint Tryz.prog 2 = (some IntKind.i64) := by kernel_rfl
attribute [go_sem] tab_tint_2
theorem tab_tsz_3 : tsz Tryz.prog 3 = (some 1) := by kernel_rfl
attribute [go_sem] tab_tsz_3
theorem tab_tbytes_3 : tbytes Tryz.prog 3 = (some 8) := by kernel_rfl
attribute [go_sem] tab_tbytes_3
theorem tab_tagg_3 : tagg Tryz.prog 3 = (some false) := by kernel_rfl
attribute [go_sem] tab_tagg_3
theorem tab_tint_3 : tint Tryz.prog 3 = (some IntKind.i64) := by kernel_rfl
attribute [go_sem] tab_tint_3
theorem tab_tsz_4 : tsz Tryz.prog 4 = (some 1) := by kernel_rfl
attribute [go_sem] tab_tsz_4
theorem tab_tbytes_4 : tbytes Tryz.prog 4 = (some 1) := by kernel_rfl
attribute [go_sem] tab_tbytes_4
theorem tab_tagg_4 : tagg Tryz.prog 4 = (some false) := by kernel_rfl
attribute [go_sem] tab_tagg_4
theorem tab_tsz_5 : tsz Tryz.prog 5 = (some 1) := by kernel_rfl
attribute [go_sem] tab_tsz_5
theorem tab_tbytes_5 : tbytes Tryz.prog 5 = (some 1) := by kernel_rfl
attribute [go_sem] tab_tbytes_5
theorem tab_tagg_5 : tagg Tryz.prog 5 = (some false) := by kernel_rfl
attribute [go_sem] tab_tagg_5
theorem tab_tint_5 : tint Tryz.prog 5 = (some IntKind.u8) := by kernel_rfl
attribute [go_sem] tab_tint_5
theorem tab_tsz_6 : tsz Tryz.prog 6 = (some 1) := by kernel_rfl
attribute [go_sem] tab_tsz_6
theorem tab_tbytes_6 : tbytes Tryz.prog 6 = (some 1) := by kernel_rfl
attribute [go_sem] tab_tbytes_6
theorem tab_tagg_6 : tagg Tryz.prog 6 = (some false) := by kernel_rfl
attribute [go_sem] tab_tagg_6
theorem tab_tint_6 : tint Tryz.prog 6 = (some IntKind.u8) := by kernel_rfl
attribute [go_sem] tab_tint_6
theorem tab_tsz_7 : tsz Tryz.prog 7 = (some 4) := by kernel_rfl
attribute [go_sem] tab_tsz_7
theorem tab_tbytes_7 : tbytes Tryz.prog 7 = (some 24) := by kernel_rfl
attribute [go_sem] tab_tbytes_7
theorem tab_tagg_7 : tagg Tryz.prog 7 = (some true) := by kernel_rfl
attribute [go_sem] tab_tagg_7
theorem tab_tfields_7 : tfields Tryz.prog 7 = (some [(0, (1, false)), (1, (1, false)), (2, (1, false)), (3, (1, false))]) := by kernel_rfl
attribute [go_sem] tab_tfields_7
theorem tab_teq_7 : teq Tryz.prog 7 = (some [(0, false), (1, false), (2, true), (3, false)]) := by kernel_rfl
attribute [go_sem] tab_teq_7
theorem tab_tsz_8 : tsz Tryz.prog 8 = (some 4) := by kernel_rfl
attribute [go_sem] tab_tsz_8
theorem tab_tbytes_8 : tbytes Tryz.prog 8 = (some 24) := by kernel_rfl
attribute [go_sem] tab_tbytes_8
theorem tab_tagg_8 : tagg Tryz.prog 8 = (some true) := by kernel_rfl
attribute [go_sem] tab_tagg_8
theorem tab_tfields_8 : tfields Tryz.prog 8 = (some [(0, (1, false)), (1, (1, false)), (2, (1, false)), (3, (1, false))]) := by kernel_rfl
attribute [go_sem] tab_tfields_8
theorem tab_teq_8 : teq Tryz.prog 8 = (some [(0, false), (1, false), (2, true), (3, false)]) := by kernel_rfl
attribute [go_sem] tab_teq_8
theorem tab_tsz_9 : tsz Tryz.prog 9 = (some 1) := by kernel_rfl
attribute [go_sem] tab_tsz_9
theorem tab_tbytes_9 : tbytes Tryz.prog 9 = (some 16) := by kernel_rfl
attribute [go_sem] tab_tbytes_9
theorem tab_tagg_9 : tagg Tryz.prog 9 = (some false) := by kernel_rfl
attribute [go_sem] tab_tagg_9
theorem tab_tsz_10 : tsz Tryz.prog 10 = (some 1) := by kernel_rfl
attribute [go_sem] tab_tsz_10
theorem tab_tbytes_10 : tbytes Tryz.prog 10 = (some 16) := by kernel_rfl
attribute [go_sem] tab_tbytes_10
theorem tab_tagg_10 : tagg Tryz.prog 10 = (some false) := by kernel_rfl
attribute [go_sem] tab_tagg_10
theorem tab_tsz_11 : tsz Tryz.prog 11 = (some 1) := by kernel_rfl
attribute [go_sem] tab_tsz_11
theorem tab_tbytes_11 : tbytes Tryz.prog 11 = (some 16) := by kernel_rfl
attribute [go_sem] tab_tbytes_11
theorem tab_tagg_11 : tagg Tryz.prog 11 = (some false) := by kernel_rfl
attribute [go_sem] tab_tagg_11
theorem tab_tsz_12 : tsz Tryz.prog 12 = (some 1) := by kernel_rfl
attribute [go_sem] tab_tsz_12
theorem tab_tbytes_12 : tbytes Tryz.prog 12 = (some 8) := by kernel_rfl
attribute [go_sem] tab_tbytes_12
theorem tab_tagg_12 : tagg Tryz.prog 12 = (some false) := by kernel_rfl
attribute [go_sem] tab_tagg_12
theorem tab_tint_12 : tint Tryz.prog 12 = (some IntKind.u64) := by kernel_rfl
attribute [go_sem] tab_tint_12
theorem tab_tsz_13 : tsz Tryz.prog 13 = (some 2) := by kernel_rfl
attribute [go_sem] tab_tsz_13
theorem tab_tbytes_13 : tbytes Tryz.prog 13 = (some 24) := by kernel_rfl
attribute [go_sem] tab_tbytes_13
theorem tab_tagg_13 : tagg Tryz.prog 13 = (some true) := by kernel_rfl
attribute [go_sem] tab_tagg_13
theorem tab_tfields_13 : tfields Tryz.prog 13 = (some [(0, (1, false)), (1, (1, false))]) := by kernel_rfl
attribute [go_sem] tab_tfields_13
theorem tab_tsz_14 : tsz Tryz.prog 14 = (some 2) := by kernel_rfl
attribute [go_sem] tab_tsz_14
theorem tab_tbytes_14 : tbytes Tryz.prog 14 = (some 24) := by kernel_rfl
attribute [go_sem] tab_tbytes_14
theorem tab_tagg_14 : tagg Tryz.prog 14 = (some true) := by kernel_rfl
attribute [go_sem] tab_tagg_14
theorem tab_tfields_14 : tfields Tryz.prog 14 = (some [(0, (1, false)), (1, (1, false))]) := by kernel_rfl
attribute [go_sem] tab_tfields_14
theorem tab_tsz_15 : tsz Tryz.prog 15 = (some 1) := by kernel_rfl
attribute [go_sem] tab_tsz_15
theorem tab_tbytes_15 : tbytes Tryz.prog 15 = (some 8) := by kernel_rfl
attribute [go_sem] tab_tbytes_15
theorem tab_tagg_15 : tagg Tryz.prog 15 = (some false) := by kernel_rfl
attribute [go_sem] tab_tagg_15
theorem tab_tsz_16 : tsz Tryz.prog 16 = (some 1) := by kernel_rfl
attribute [go_sem] tab_tsz_16
theorem tab_tbytes_16 : tbytes Tryz.prog 16 = (some 8) := by kernel_rfl
attribute [go_sem] tab_tbytes_16
theorem tab_tagg_16 : tagg Tryz.prog 16 = (some false) := by kernel_rfl
attribute [go_sem] tab_tagg_16
theorem tab_tsz_17 : tsz Tryz.prog 17 = (some 1) := by kernel_rfl
attribute [go_sem] tab_tsz_17
theorem tab_tbytes_17 : tbytes Tryz.prog 17 = (some 8) := by kernel_rfl
attribute [go_sem] tab_tbytes_17
theorem tab_tagg_17 : tagg Tryz.prog 17 = (some false) := by kernel_rfl
attribute [go_sem] tab_tagg_17
theorem tab_tsz_18 : tsz Tryz.prog 18 = (some 1) := by kernel_rfl
attribute [go_sem] tab_tsz_18
theorem tab_tbytes_18 : tbytes Tryz.prog 18 = (some 8) := by kernel_rfl
attribute [go_sem] tab_tbytes_18
theorem tab_tagg_18 : tagg Tryz.prog 18 = (some true) := by kernel_rfl
attribute [go_sem] tab_tagg_18
theorem tab_tfields_18 : tfields Tryz.prog 18 = (some [(0, (1, false))]) := by kernel_rfl
attribute [go_sem] tab_tfields_18
theorem tab_tsz_19 : tsz Tryz.prog 19 = (some 1) := by kernel_rfl
attribute [go_sem] tab_tsz_19
theorem tab_tbytes_19 : tbytes Tryz.prog 19 = (some 8) := by kernel_rfl
attribute [go_sem] tab_tbytes_19
theorem tab_tagg_19 : tagg Tryz.prog 19 = (some true) := by kernel_rfl
attribute [go_sem] tab_tagg_19
theorem tab_tfields_19 : tfields Tryz.prog 19 = (some [(0, (1, false))]) := by kernel_rfl
attribute [go_sem] tab_tfields_19
theorem tab_tsz_20 : tsz Tryz.prog 20 = (some 1) := by kernel_rfl
attribute [go_sem] tab_tsz_20
theorem tab_tbytes_20 : tbytes Tryz.prog 20 = (some 16) := by kernel_rfl
attribute [go_sem] tab_tbytes_20
theorem tab_tagg_20 : tagg Tryz.prog 20 = (some false) := by kernel_rfl
attribute [go_sem] tab_tagg_20
theorem tab_tsz_21 : tsz Tryz.prog 21 = (some 1) := by kernel_rfl
attribute [go_sem] tab_tsz_21
theorem tab_tbytes_21 : tbytes Tryz.prog 21 = (some 4) := by kernel_rfl
attribute [go_sem] tab_tbytes_21
theorem tab_tagg_21 : tagg Tryz.prog 21 = (some false) := by kernel_rfl
attribute [go_sem] tab_tagg_21
theorem tab_tint_21 : tint Tryz.prog 21 = (some IntKind.i32) := by kernel_rfl
attribute [go_sem] tab_tint_21
theorem tab_tsz_22 : tsz Tryz.prog 22 = (some 1) := by kernel_rfl
attribute [go_sem] tab_tsz_22
theorem tab_tbytes_22 : tbytes Tryz.prog 22 = (some 24) := by kernel_rfl
attribute [go_sem] tab_tbytes_22
theorem tab_tagg_22 : tagg Tryz.prog 22 = (some false) := by kernel_rfl
attribute [go_sem] tab_tagg_22
theorem tab_tslice_22 : tslice Tryz.prog 22 = (some 92) := by kernel_rfl
attribute [go_sem] tab_tslice_22
theorem tab_tsz_23 : tsz Tryz.prog 23 = (some 1) := by kernel_rfl
attribute [go_sem] tab_tsz_23
theorem tab_tbytes_23 : tbytes Tryz.prog 23 = (some 24) := by kernel_rfl
attribute [go_sem] tab_tbytes_23
theorem tab_tagg_23 : tagg Tryz.prog 23 = (some true) := by kernel_rfl
attribute [go_sem] tab_tagg_23
theorem tab_tfields_23 : tfields Tryz.prog 23 = (some [(0, (1, false))]) := by kernel_rfl
attribute [go_sem] tab_tfields_23
theorem tab_tsz_24 : tsz Tryz.prog 24 = (some 1) := by kernel_rfl
attribute [go_sem] tab_tsz_24
theorem tab_tbytes_24 : tbytes Tryz.prog 24 = (some 24) := by kernel_rfl
attribute [go_sem] tab_tbytes_24
theorem tab_tagg_24 : tagg Tryz.prog 24 = (some true) := by kernel_rfl
attribute [go_sem] tab_tagg_24
theorem tab_tfields_24 : tfields Tryz.prog 24 = (some [(0, (1, false))]) := by kernel_rfl
attribute [go_sem] tab_tfields_24
theorem tab_tsz_25 : tsz Tryz.prog 25 = (some 1) := by kernel_rfl
attribute [go_sem] tab_tsz_25
theorem tab_tbytes_25 : tbytes Tryz.prog 25 = (some 24) := by kernel_rfl
attribute [go_sem] tab_tbytes_25
theorem tab_tagg_25 : tagg Tryz.prog 25 = (some false) := by kernel_rfl
attribute [go_sem] tab_tagg_25
theorem tab_tslice_25 : tslice Tryz.prog 25 = (some 71) := by kernel_rfl
attribute [go_sem] tab_tslice_25
theorem tab_tsz_26 : tsz Tryz.prog 26 = (some 1) := by kernel_rfl
attribute [go_sem] tab_tsz_26
theorem tab_tbytes_26 : tbytes Tryz.prog 26 = (some 24) := by kernel_rfl
attribute [go_sem] tab_tbytes_26
theorem tab_tagg_26 : tagg Tryz.prog 26 = (some false) := by kernel_rfl
attribute [go_sem] tab_tagg_26
theorem tab_tslice_26 : tslice Tryz.prog 26 = (some 56) := by kernel_rfl
attribute [go_sem] tab_tslice_26
theorem tab_tsz_27 : tsz Tryz.prog 27 = (some 2) := by kernel_rfl
attribute [go_sem] tab_tsz_27
theorem tab_tbytes_27 : tbytes Tryz.prog 27 = (some 32) := by kernel_rfl
attribute [go_sem] tab_tbytes_27
theorem tab_tagg_27 : tagg Tryz.prog 27 = (some true) := by kernel_rfl
attribute [go_sem] tab_tagg_27
theorem tab_tfields_27 : tfields Tryz.prog 27 = (some [(0, (1, false)), (1, (1, false))]) := by kernel_rfl
attribute [go_sem] tab_tfields_27
theorem tab_tsz_28 : tsz Tryz.prog 28 = (some 2) := by kernel_rfl
attribute [go_sem] tab_tsz_28
theorem tab_tbytes_28 : tbytes Tryz.prog 28 = (some 32) := by kernel_rfl
attribute [go_sem] tab_tbytes_28
theorem tab_tagg_28 : tagg Tryz.prog 28 = (some true) := by kernel_rfl
attribute [go_sem] tab_tagg_28
theorem tab_tfields_28 : tfields Tryz.prog 28 = (some [(0, (1, false)), (1, (1, false))]) := by kernel_rfl
attribute [go_sem] tab_tfields_28
theorem tab_tsz_29 : tsz Tryz.prog 29 = (some 1) := by kernel_rfl
attribute [go_sem] tab_tsz_29
theorem tab_tbytes_29 : tbytes Tryz.prog 29 = (some 24) := by kernel_rfl
attribute [go_sem] tab_tbytes_29
theorem tab_tagg_29 : tagg Tryz.prog 29 = (some false) := by kernel_rfl
attribute [go_sem] tab_tagg_29
theorem tab_tslice_29 : tslice Tryz.prog 29 = (some 79) := by kernel_rfl
attribute [go_sem] tab_tslice_29
theorem tab_tsz_30 : tsz Tryz.prog 30 = (some 4) := by kernel_rfl
attribute [go_sem] tab_tsz_30
theorem tab_tbytes_30 : tbytes Tryz.prog 30 = (some 64) := by kernel_rfl
attribute [go_sem] tab_tbytes_30
theorem tab_tagg_30 : tagg Tryz.prog 30 = (some true) := by kernel_rfl
attribute [go_sem] tab_tagg_30
theorem tab_tfields_30 : tfields Tryz.prog 30 = (some [(0, (2, true)), (2, (1, false)), (3, (1, false))]) := by kernel_rfl
attribute [go_sem] tab_tfields_30
theorem tab_tsz_31 : tsz Tryz.prog 31 = (some 4) := by kernel_rfl
attribute [go_sem] tab_tsz_31
theorem tab_tbytes_31 : tbytes Tryz.prog 31 = (some 64) := by kernel_rfl
attribute [go_sem] tab_tbytes_31
theorem tab_tagg_31 : tagg Tryz.prog 31 = (some true) := by kernel_rfl
attribute [go_sem] tab_tagg_31
theorem tab_tfields_31 : tfields Tryz.prog 31 = (some [(0, (2, true)), (2, (1, false)), (3, (1, false))]) := by kernel_rfl
attribute [go_sem] tab_tfields_31
theorem tab_tsz_32 : tsz Tryz.prog 32 = (some 1) := by kernel_rfl
attribute [go_sem] tab_tsz_32
theorem tab_tbytes_32 : tbytes Tryz.prog 32 = (some 8) := by kernel_rfl
attribute [go_sem] tab_tbytes_32
theorem tab_tagg_32 : tagg Tryz.prog 32 = (some false) := by kernel_rfl
attribute [go_sem] tab_tagg_32
theorem tab_tsz_33 : tsz Tryz.prog 33 = (some 1) := by kernel_rfl
attribute [go_sem] tab_tsz_33
theorem tab_tbytes_33 : tbytes Tryz.prog 33 = (some 8) := by kernel_rfl
attribute [go_sem] tab_tbytes_33
theorem tab_tagg_33 : tagg Tryz.prog 33 = (some false) := by kernel_rfl
attribute [go_sem] tab_tagg_33
theorem tab_tsz_34 : tsz Tryz.prog 34 = (some 1) := by kernel_rfl
attribute [go_sem] tab_tsz_34
theorem tab_tbytes_34 : tbytes Tryz.prog 34 = (some 8) := by kernel_rfl
attribute [go_sem] tab_tbytes_34
theorem tab_tagg_34 : tagg Tryz.prog 34 = (some false) := by kernel_rfl
attribute [go_sem] tab_tagg_34
theorem tab_tsz_35 : tsz Tryz.prog 35 = (some 1) := by kernel_rfl
attribute [go_sem] tab_tsz_35
theorem tab_tbytes_35 : tbytes Tryz.prog 35 = (some 8) := by kernel_rfl
attribute [go_sem] tab_tbytes_35
theorem tab_tagg_35 : tagg Tryz.prog 35 = (some false) := by kernel_rfl
attribute [go_sem] tab_tagg_35
theorem tab_tsz_36 : tsz Tryz.prog 36 = (some 1) := by kernel_rfl
attribute [go_sem] tab_tsz_36
theorem tab_tbytes_36 : tbytes Tryz.prog 36 = (some 8) := by kernel_rfl
attribute [go_sem] tab_tbytes_36
theorem tab_tagg_36 : tagg Tryz.prog 36 = (some false) := by kernel_rfl
attribute [go_sem] tab_tagg_36
theorem tab_tsz_37 : tsz Tryz.prog 37 = (some 1) := by kernel_rfl
attribute [go_sem] tab_tsz_37
theorem tab_tbytes_37 : tbytes Tryz.prog 37 = (some 24) := by kernel_rfl
attribute [go_sem] tab_tbytes_37
theorem tab_tagg_37 : tagg Tryz.prog 37 = (some false) := by kernel_rfl
attribute [go_sem] tab_tagg_37
theorem tab_tslice_37 : tslice Tryz.prog 37 = (some 48) := by kernel_rfl
attribute [go_sem] tab_tslice_37
theorem tab_tsz_38 : tsz Tryz.prog 38 = (some 1) := by kernel_rfl
attribute [go_sem] tab_tsz_38
theorem tab_tbytes_38 : tbytes Tryz.prog 38 = (some 8) := by kernel_rfl
attribute [go_sem] tab_tbytes_38
theorem tab_tagg_38 : tagg Tryz.prog 38 = (some false) := by kernel_rfl
attribute [go_sem] tab_tagg_38
theorem tab_tint_38 : tint Tryz.prog 38 = (some IntKind.i64) := by kernel_rfl
attribute [go_sem] tab_tint_38
theorem tab_tsz_39 : tsz Tryz.prog 39 = (some 1) := by kernel_rfl
attribute [go_sem] tab_tsz_39
theorem tab_tbytes_39 : tbytes Tryz.prog 39 = (some 0) := by kernel_rfl
attribute [go_sem] tab_tbytes_39
theorem tab_tagg_39 : tagg Tryz.prog 39 = (some false) := by kernel_rfl
attribute [go_sem] tab_tagg_39
theorem tab_tsz_40 : tsz Tryz.prog 40 = (some 1) := by kernel_rfl
attribute [go_sem] tab_tsz_40
theorem tab_tbytes_40 : tbytes Tryz.prog 40 = (some 8) := by kernel_rfl
attribute [go_sem] tab_tbytes_40
theorem tab_tagg_40 : tagg Tryz.prog 40 = (some false) := by kernel_rfl
attribute [go_sem] tab_tagg_40
theorem tab_tsz_41 : tsz Tryz.prog 41 = (some 1) := by kernel_rfl
attribute [go_sem] tab_tsz_41
theorem tab_tbytes_41 : tbytes Tryz.prog 41 = (some 8) := by kernel_rfl
attribute [go_sem] tab_tbytes_41
theorem tab_tagg_41 : tagg Tryz.prog 41 = (some false) := by kernel_rfl
attribute [go_sem] tab_tagg_41
theorem tab_tsz_42 : tsz Tryz.prog 42 = (some 1) := by kernel_rfl
attribute [go_sem] tab_tsz_42
theorem tab_tbytes_42 : tbytes Tryz.prog 42 = (some 0) := by kernel_rfl
attribute [go_sem] tab_tbytes_42
theorem tab_tagg_42 : tagg Tryz.prog 42 = (some false) := by kernel_rfl
attribute [go_sem] tab_tagg_42
theorem tab_tsz_43 : tsz Tryz.prog 43 = (some 1) := by kernel_rfl
attribute [go_sem] tab_tsz_43
theorem tab_tbytes_43 : tbytes Tryz.prog 43 = (some 8) := by kernel_rfl
attribute [go_sem] tab_tbytes_43
theorem tab_tagg_43 : tagg Tryz.prog 43 = (some false) := by kernel_rfl
attribute [go_sem] tab_tagg_43
theorem tab_tsz_44 : tsz Tryz.prog 44 = (some 1) := by kernel_rfl
attribute [go_sem] tab_tsz_44
theorem tab_tbytes_44 : tbytes Tryz.prog 44 = (some 8) := by kernel_rfl
attribute [go_sem] tab_tbytes_44
theorem tab_tagg_44 : tagg Tryz.prog 44 = (some false) := by kernel_rfl
attribute [go_sem] tab_tagg_44
theorem tab_tsz_45 : tsz Tryz.prog 45 = (some 1) := by kernel_rfl
attribute [go_sem] tab_tsz_45
theorem tab_tbytes_45 : tbytes Tryz.prog 45 = (some 8) := by kernel_rfl
attribute [go_sem] tab_tbytes_45
theorem tab_tagg_45 : tagg Tryz.prog 45 = (some false) := by kernel_rfl
attribute [go_sem] tab_tagg_45
theorem tab_tsz_46 : tsz Tryz.prog 46 = (some 1) := by kernel_rfl
attribute [go_sem] tab_tsz_46
theorem tab_tbytes_46 : tbytes Tryz.prog 46 = (some 24) := by kernel_rfl
attribute [go_sem] tab_tbytes_46
theorem tab_tagg_46 : tagg Tryz.prog 46 = (some false) := by kernel_rfl
attribute [go_sem] tab_tagg_46
theorem tab_tslice_46 : tslice Tryz.prog 46 = (some 69) := by kernel_rfl
attribute [go_sem] tab_tslice_46
theorem tab_tsz_47 : tsz Tryz.prog 47 = (some 2) := by kernel_rfl
attribute [go_sem] tab_tsz_47
theorem tab_tbytes_47 : tbytes Tryz.prog 47 = (some 16) := by kernel_rfl
attribute [go_sem] tab_tbytes_47
theorem tab_tagg_47 : tagg Tryz.prog 47 = (some true) := by kernel_rfl
attribute [go_sem] tab_tagg_47
theorem tab_tfields_47 : tfields Tryz.prog 47 = (some [(0, (1, false)), (1, (1, false))]) := by kernel_rfl
attribute [go_sem] tab_tfields_47
theorem tab_teq_47 : teq Tryz.prog 47 = (some [(0, false), (1, false)]) := by kernel_rfl
attribute [go_sem] tab_teq_47
theorem tab_tsz_48 : tsz Tryz.prog 48 = (some 2) := by kernel_rfl
attribute [go_sem] tab_tsz_48
theorem tab_tbytes_48 : tbytes Tryz.prog 48 = (some 16) := by kernel_rfl
attribute [go_sem] tab_tbytes_48
theorem tab_tagg_48 : tagg Tryz.prog 48 = (some true) := by kernel_rfl
attribute [go_sem] tab_tagg_48
theorem tab_tfields_48 : tfields Tryz.prog 48 = (some [(0, (1, false)), (1, (1, false))]) := by kernel_rfl
attribute [go_sem] tab_tfields_48
theorem tab_teq_48 : teq Tryz.prog 48 = (some [(0, false), (1, false)]) := by kernel_rfl
attribute [go_sem] tab_teq_48
theorem tab_tsz_49 : tsz Tryz.prog 49 = (some 4) := by kernel_rfl
attribute [go_sem] tab_tsz_49
theorem tab_tbytes_49 : tbytes Tryz.prog 49 = (some 32) := by kernel_rfl
attribute [go_sem] tab_tbytes_49
theorem tab_tagg_49 : tagg Tryz.prog 49 = (some true) := by kernel_rfl
attribute [go_sem] tab_tagg_49
theorem tab_tfields_49 : tfields Tryz.prog 49 = (some [(0, (1, false)), (1, (1, false)), (2, (2, true))]) := by kernel_rfl
attribute [go_sem] tab_tfields_49
theorem tab_teq_49 : teq Tryz.prog 49 = (some [(0, false), (1, false), (2, false), (3, false)]) := by kernel_rfl
attribute [go_sem] tab_teq_49
theorem tab_tsz_50 : tsz Tryz.prog 50 = (some 4) := by kernel_rfl
attribute [go_sem] tab_tsz_50
theorem tab_tbytes_50 : tbytes Tryz.prog 50 = (some 32) := by kernel_rfl
attribute [go_sem] tab_tbytes_50
theorem tab_tagg_50 : tagg Tryz.prog 50 = (some true) := by kernel_rfl
attribute [go_sem] tab_tagg_50
theorem tab_tfields_50 : tfields Tryz.prog 50 = (some [(0, (1, false)), (1, (1, false)), (2, (2, true))]) := by kernel_rfl
attribute [go_sem] tab_tfields_50
theorem tab_teq_50 : teq Tryz.prog 50 = (some [(0, false), (1, false), (2, false), (3, false)]) := by kernel_rfl
attribute [go_sem] tab_teq_50
theorem tab_tsz_51 : tsz Tryz.prog 51 = (some 7) := by kernel_rfl
attribute [go_sem] tab_tsz_51
theorem tab_tbytes_51 : tbytes Tryz.prog 51 = (some 88) := by kernel_rfl
attribute [go_sem] tab_tbytes_51
theorem tab_tagg_51 : tagg Tryz.prog 51 = (some true) := by kernel_rfl
attribute [go_sem] tab_tagg_51
theorem tab_tfields_51 : tfields Tryz.prog 51 = (some [(0, (1, false)), (1, (1, false)), (2, (4, true)), (6, (1, false))]) := by kernel_rfl
attribute [go_sem] tab_tfields_51
theorem tab_tsz_52 : tsz Tryz.prog 52 = (some 7) := by kernel_rfl
attribute [go_sem] tab_tsz_52
theorem tab_tbytes_52 : tbytes Tryz.prog 52 = (some 88) := by kernel_rfl
attribute [go_sem] tab_tbytes_52
theorem tab_tagg_52 : tagg Tryz.prog 52 = (some true) := by kernel_rfl
attribute [go_sem] tab_tagg_52
theorem tab_tfields_52 : tfields Tryz.prog 52 = (some [(0, (1, false)), (1, (1, false)), (2, (4, true)), (6, (1, false))]) := by kernel_rfl
attribute [go_sem] tab_tfields_52
theorem tab_tsz_53 : tsz Tryz.prog 53 = (some 1) := by kernel_rfl
attribute [go_sem] tab_tsz_53
theorem tab_tbytes_53 : tbytes Tryz.prog 53 = (some 8) := by kernel_rfl
attribute [go_sem] tab_tbytes_53
theorem tab_tagg_53 : tagg Tryz.prog 53 = (some false) := by kernel_rfl
attribute [go_sem] tab_tagg_53
theorem tab_tsz_54 : tsz Tryz.prog 54 = (some 1) := by kernel_rfl
attribute [go_sem] tab_tsz_54
theorem tab_tbytes_54 : tbytes Tryz.prog 54 = (some 8) := by kernel_rfl
attribute [go_sem] tab_tbytes_54
theorem tab_tagg_54 : tagg Tryz.prog 54 = (some false) := by kernel_rfl
attribute [go_sem] tab_tagg_54
theorem tab_tsz_55 : tsz Tryz.prog 55 = (some 8) := by kernel_rfl
attribute [go_sem] tab_tsz_55
theorem tab_tbytes_55 : tbytes Tryz.prog 55 = (some 80) := by kernel_rfl
attribute [go_sem] tab_tbytes_55
theorem tab_tagg_55 : tagg Tryz.prog 55 = (some true) := by kernel_rfl
attribute [go_sem] tab_tagg_55
theorem tab_tfields_55 : tfields Tryz.prog 55 = (some [(0, (1, false)), (1, (1, false)), (2, (1, false)), (3, (2, true)), (5, (2, true)), (7, (1, false))]) := by kernel_rfl
attribute [go_sem] tab_tfields_55
theorem tab_tsz_56 : tsz Tryz.prog 56 = (some 8) := by kernel_rfl
attribute [go_sem] tab_tsz_56
theorem tab_tbytes_56 : tbytes Tryz.prog 56 = (some 80) := by kernel_rfl
attribute [go_sem] tab_tbytes_56
theorem tab_tagg_56 : tagg Tryz.prog 56 = (some true) := by kernel_rfl
attribute [go_sem] tab_tagg_56
theorem tab_tfields_56 : tfields Tryz.prog 56 = (some [(0, (1, false)), (1, (1, false)), (2, (1, false)), (3, (2, true)), (5, (2, true)), (7, (1, false))]) := by kernel_rfl
attribute [go_sem] tab_tfields_56
theorem tab_tsz_57 : tsz Tryz.prog 57 = (some 1) := by kernel_rfl
attribute [go_sem] tab_tsz_57
theorem tab_tbytes_57 : tbytes Tryz.prog 57 = (some 8) := by kernel_rfl
attribute [go_sem] tab_tbytes_57
theorem tab_tagg_57 : tagg Tryz.prog 57 = (some false) := by kernel_rfl
attribute [go_sem] tab_tagg_57
theorem tab_tsz_58 : tsz Tryz.prog 58 = (some 1) := by kernel_rfl
attribute [go_sem] tab_tsz_58
theorem tab_tbytes_58 : tbytes Tryz.prog 58 = (some 8) := by kernel_rfl
attribute [go_sem] tab_tbytes_58
theorem tab_tagg_58 : tagg Tryz.prog 58 = (some false) := by kernel_rfl
attribute [go_sem] tab_tagg_58
theorem tab_tsz_59 : tsz Tryz.prog 59 = (some 1) := by kernel_rfl
attribute [go_sem] tab_tsz_59
theorem tab_tbytes_59 : tbytes Tryz.prog 59 = (some 8) := by kernel_rfl
attribute [go_sem] tab_tbytes_59
theorem tab_tagg_59 : tagg Tryz.prog 59 = (some false) := by kernel_rfl
attribute [go_sem] tab_tagg_59
theorem tab_tsz_60 : tsz Tryz.prog 60 = (some 6) := by kernel_rfl
attribute [go_sem] tab_tsz_60
theorem tab_tbytes_60 : tbytes Tryz.prog 60 = (some 48) := by kernel_rfl
attribute [go_sem] tab_tbytes_60
theorem tab_tagg_60 : tagg Tryz.prog 60 = (some true) := by kernel_rfl
attribute [go_sem] tab_tagg_60
theorem tab_tfields_60 : tfields Tryz.prog 60 = (some [(0, (1, false)), (1, (1, false)), (2, (4, true))]) := by kernel_rfl
attribute [go_sem] tab_tfields_60
theorem tab_tsz_61 : tsz Tryz.prog 61 = (some 6) := by kernel_rfl
attribute [go_sem] tab_tsz_61
theorem tab_tbytes_61 : tbytes Tryz.prog 61 = (some 48) := by kernel_rfl
attribute [go_sem] tab_tbytes_61
theorem tab_tagg_61 : tagg Tryz.prog 61 = (some true) := by kernel_rfl
attribute [go_sem] tab_tagg_61
theorem tab_tfields_61 : tfields Tryz.prog 61 = (some [(0, (1, false)), (1, (1, false)), (2, (4, true))]) := by kernel_rfl
attribute [go_sem] tab_tfields_61
theorem tab_tsz_62 : tsz Tryz.prog 62 = (some 1) := by kernel_rfl
attribute [go_sem] tab_tsz_62
theorem tab_tbytes_62 : tbytes Tryz.prog 62 = (some 8) := by kernel_rfl
attribute [go_sem] tab_tbytes_62
theorem tab_tagg_62 : tagg Tryz.prog 62 = (some false) := by kernel_rfl
attribute [go_sem] tab_tagg_62
theorem tab_tsz_63 : tsz Tryz.prog 63 = (some 1) := by kernel_rfl
attribute [go_sem] tab_tsz_63
theorem tab_tbytes_63 : tbytes Tryz.prog 63 = (some 0) := by kernel_rfl
attribute [go_sem] tab_tbytes_63
theorem tab_tagg_63 : tagg Tryz.prog 63 = (some false) := by kernel_rfl
attribute [go_sem] tab_tagg_63
theorem tab_tsz_64 : tsz Tryz.prog 64 = (some 1) := by kernel_rfl
attribute [go_sem] tab_tsz_64
theorem tab_tbytes_64 : tbytes Tryz.prog 64 = (some 8) := by kernel_rfl
attribute [go_sem] tab_tbytes_64
theorem tab_tagg_64 : tagg Tryz.prog 64 = (some false) := by kernel_rfl
attribute [go_sem] tab_tagg_64
theorem tab_tsz_65 : tsz Tryz.prog 65 = (some 1) := by kernel_rfl
attribute [go_sem] tab_tsz_65
theorem tab_tbytes_65 : tbytes Tryz.prog 65 = (some 0) := by kernel_rfl
attribute [go_sem] tab_tbytes_65
theorem tab_tagg_65 : tagg Tryz.prog 65 = (some false) := by kernel_rfl
attribute [go_sem] tab_tagg_65
theorem tab_tsz_66 : tsz Tryz.prog 66 = (some 1) := by kernel_rfl
attribute [go_sem] tab_tsz_66
theorem tab_tbytes_66 : tbytes Tryz.prog 66 = (some 8) := by kernel_rfl
attribute [go_sem] tab_tbytes_66
theorem tab_tagg_66 : tagg Tryz.prog 66 = (some false) := by kernel_rfl
attribute [go_sem] tab_tagg_66
theorem tab_tsz_67 : tsz Tryz.prog 67 = (some 1) := by kernel_rfl
attribute [go_sem] tab_tsz_67
theorem tab_tbytes_67 : tbytes Tryz.prog 67 = (some 8) := by kernel_rfl
attribute [go_sem] tab_tbytes_67
theorem tab_tagg_67 : tagg Tryz.prog 67 = (some false) := by kernel_rfl
attribute [go_sem] tab_tagg_67
theorem tab_tsz_68 : tsz Tryz.prog 68 = (some 3) := by kernel_rfl
attribute [go_sem] tab_tsz_68
theorem tab_tbytes_68 : tbytes Tryz.prog 68 = (some 24) := by kernel_rfl
attribute [go_sem] tab_tbytes_68
theorem tab_tagg_68 : tagg Tryz.prog 68 = (some true) := by kernel_rfl
attribute [go_sem] tab_tagg_68
theorem tab_tfields_68 : tfields Tryz.prog 68 = (some [(0, (1, false)), (1, (1, false)), (2, (1, false))]) := by kernel_rfl
attribute [go_sem] tab_tfields_68
theorem tab_teq_68 : teq Tryz.prog 68 = (some [(0, false), (1, false), (2, false)]) := by kernel_rfl
attribute [go_sem] tab_teq_68
theorem tab_tsz_69 : tsz Tryz.prog 69 = (some 3) := by kernel_rfl
attribute [go_sem] tab_tsz_69
theorem tab_tbytes_69 : tbytes Tryz.prog 69 = (some 24) := by kernel_rfl
attribute [go_sem] tab_tbytes_69
theorem tab_tagg_69 : tagg Tryz.prog 69 = (some true) := by kernel_rfl
attribute [go_sem] tab_tagg_69
theorem tab_tfields_69 : tfields Tryz.prog 69 = (some [(0, (1, false)), (1, (1, false)), (2, (1, false))]) := by kernel_rfl
attribute [go_sem] tab_tfields_69
theorem tab_teq_69 : teq Tryz.prog 69 = (some [(0, false), (1, false), (2, false)]) := by kernel_rfl
attribute [go_sem] tab_teq_69
theorem tab_tsz_70 : tsz Tryz.prog 70 = (some 4) := by kernel_rfl
attribute [go_sem] tab_tsz_70
theorem tab_tbytes_70 : tbytes Tryz.prog 70 = (some 32) := by kernel_rfl
attribute [go_sem] tab_tbytes_70
theorem tab_tagg_70 : tagg Tryz.prog 70 = (some true) := by kernel_rfl
attribute [go_sem] tab_tagg_70
theorem tab_tfields_70 : tfields Tryz.prog 70 = (some [(0, (1, false)), (1, (3, true))]) := by kernel_rfl
attribute [go_sem] tab_tfields_70
theorem tab_teq_70 : teq Tryz.prog 70 = (some [(0, false), (1, false), (2, false), (3, false)]) := by kernel_rfl
attribute [go_sem] tab_teq_70
theorem tab_tsz_71 : tsz Tryz.prog 71 = (some 4) := by kernel_rfl
attribute [go_sem] tab_tsz_71
theorem tab_tbytes_71 : tbytes Tryz.prog 71 = (some 32) := by kernel_rfl
attribute [go_sem] tab_tbytes_71
theorem tab_tagg_71 : tagg Tryz.prog 71 = (some true) := by kernel_rfl
attribute [go_sem] tab_tagg_71
theorem tab_tfields_71 : tfields Tryz.prog 71 = (some [(0, (1, false)), (1, (3, true))]) := by kernel_rfl
attribute [go_sem] tab_tfields_71
theorem tab_teq_71 : teq Tryz.prog 71 = (some [(0, false), (1, false), (2, false), (3, false)]) := by kernel_rfl
attribute [go_sem] tab_teq_71
theorem tab_tsz_72 : tsz Tryz.prog 72 = (some 8) := by kernel_rfl
attribute [go_sem] tab_tsz_72
theorem tab_tbytes_72 : tbytes Tryz.prog 72 = (some 64) := by kernel_rfl
attribute [go_sem] tab_tbytes_72
theorem tab_tagg_72 : tagg Tryz.prog 72 = (some true) := by kernel_rfl
attribute [go_sem] tab_tagg_72
theorem tab_tfields_72 : tfields Tryz.prog 72 = (some [(0, (4, true)), (4, (1, false)), (5, (1, false)), (6, (1, false)), (7, (1, false))]) := by kernel_rfl
attribute [go_sem] tab_tfields_72
theorem tab_tsz_73 : tsz Tryz.prog 73 = (some 8) := by kernel_rfl
attribute [go_sem] tab_tsz_73
theorem tab_tbytes_73 : tbytes Tryz.prog 73 = (some 64) := by kernel_rfl
attribute [go_sem] tab_tbytes_73
theorem tab_tagg_73 : tagg Tryz.prog 73 = (some true) := by kernel_rfl
attribute [go_sem] tab_tagg_73
theorem tab_tfields_73 : tfields Tryz.prog 73 = (some [(0, (4, true)), (4, (1, false)), (5, (1, false)), (6, (1, false)), (7, (1, false))]) := by kernel_rfl
attribute [go_sem] tab_tfields_73
theorem tab_tsz_74 : tsz Tryz.prog 74 = (some 4) := by kernel_rfl
attribute [go_sem] tab_tsz_74
theorem tab_tbytes_74 : tbytes Tryz.prog 74 = (some 32) := by kernel_rfl
attribute [go_sem] tab_tbytes_74
theorem tab_tagg_74 : tagg Tryz.prog 74 = (some true) := by kernel_rfl
attribute [go_sem] tab_tagg_74
theorem tab_tfields_74 : tfields Tryz.prog 74 = (some [(0, (1, false)), (1, (1, false)), (2, (2, true))]) := by kernel_rfl
attribute [go_sem] tab_tfields_74
theorem tab_teq_74 : teq Tryz.prog 74 = (some [(0, false), (1, false), (2, false), (3, false)]) := by kernel_rfl
attribute [go_sem] tab_teq_74
theorem tab_tsz_75 : tsz Tryz.prog 75 = (some 4) := by kernel_rfl
attribute [go_sem] tab_tsz_75
theorem tab_tbytes_75 : tbytes Tryz.prog 75 = (some 32) := by kernel_rfl
attribute [go_sem] tab_tbytes_75
theorem tab_tagg_75 : tagg Tryz.prog 75 = (some true) := by kernel_rfl
attribute [go_sem] tab_tagg_75
theorem tab_tfields_75 : tfields Tryz.prog 75 = (some [(0, (1, false)), (1, (1, false)), (2, (2, true))]) := by kernel_rfl
attribute [go_sem] tab_tfields_75
theorem tab_teq_75 : teq Tryz.prog 75 = (some [(0, false), (1, false), (2, false), (3, false)]) := by kernel_rfl
attribute [go_sem] tab_teq_75
theorem tab_tsz_76 : tsz Tryz.prog 76 = (some 15) := by kernel_rfl
attribute [go_sem] tab_tsz_76
theorem tab_tbytes_76 : tbytes Tryz.prog 76 = (some 136) := by kernel_rfl
attribute [go_sem] tab_tbytes_76
theorem tab_tagg_76 : tagg Tryz.prog 76 = (some true) := by kernel_rfl
attribute [go_sem] tab_tagg_76
theorem tab_tfields_76 : tfields Tryz.prog 76 = (some [(0, (1, false)), (1, (8, true)), (9, (4, true)), (13, (1, false)), (14, (1, false))]) := by kernel_rfl
attribute [go_sem] tab_tfields_76
theorem tab_tsz_77 : tsz Tryz.prog 77 = (some 15) := by kernel_rfl
attribute [go_sem] tab_tsz_77
theorem tab_tbytes_77 : tbytes Tryz.prog 77 = (some 136) := by kernel_rfl
attribute [go_sem] tab_tbytes_77
theorem tab_tagg_77 : tagg Tryz.prog 77 = (some true) := by kernel_rfl
attribute [go_sem] tab_tagg_77
theorem tab_tfields_77 : tfields Tryz.prog 77 = (some [(0, (1, false)), (1, (8, true)), (9, (4, true)), (13, (1, false)), (14, (1, false))]) := by kernel_rfl
attribute [go_sem] tab_tfields_77
theorem tab_tsz_78 : tsz Tryz.prog 78 = (some 6) := by kernel_rfl
attribute [go_sem] tab_tsz_78
theorem tab_tbytes_78 : tbytes Tryz.prog 78 = (some 48) := by kernel_rfl
attribute [go_sem] tab_tbytes_78
theorem tab_tagg_78 : tagg Tryz.prog 78 = (some true) := by kernel_rfl
attribute [go_sem] tab_tagg_78
theorem tab_tfields_78 : tfields Tryz.prog 78 = (some [(0, (1, false)), (1, (1, false)), (2, (4, true))]) := by kernel_rfl
attribute [go_sem] tab_tfields_78
theorem tab_tsz_79 : tsz Tryz.prog 79 = (some 6) := by kernel_rfl
attribute [go_sem] tab_tsz_79
theorem tab_tbytes_79 : tbytes Tryz.prog 79 = (some 48) := by kernel_rfl
attribute [go_sem] tab_tbytes_79
theorem tab_tagg_79 : tagg Tryz.prog 79 = (some true) := by kernel_rfl
attribute [go_sem] tab_tagg_79
theorem tab_tfields_79 : tfields Tryz.prog 79 = (some [(0, (1, false)), (1, (1, false)), (2, (4, true))]) := by kernel_rfl
attribute [go_sem] tab_tfields_79
theorem tab_tsz_80 : tsz Tryz.prog 80 = (some 1) := by kernel_rfl
attribute [go_sem] tab_tsz_80
theorem tab_tbytes_80 : tbytes Tryz.prog 80 = (some 8) := by kernel_rfl
attribute [go_sem] tab_tbytes_80
theorem tab_tagg_80 : tagg Tryz.prog 80 = (some false) := by kernel_rfl
attribute [go_sem] tab_tagg_80
theorem tab_tsz_81 : tsz Tryz.prog 81 = (some 1) := by kernel_rfl
attribute [go_sem] tab_tsz_81
theorem tab_tbytes_81 : tbytes Tryz.prog 81 = (some 8) := by kernel_rfl
attribute [go_sem] tab_tbytes_81
theorem tab_tagg_81 : tagg Tryz.prog 81 = (some false) := by kernel_rfl
attribute [go_sem] tab_tagg_81
theorem tab_tsz_82 : tsz Tryz.prog 82 = (some 1) := by kernel_rfl
attribute [go_sem] tab_tsz_82
theorem tab_tbytes_82 : tbytes Tryz.prog 82 = (some 8) := by kernel_rfl
attribute [go_sem] tab_tbytes_82
theorem tab_tagg_82 : tagg Tryz.prog 82 = (some false) := by kernel_rfl
attribute [go_sem] tab_tagg_82
theorem tab_tsz_83 : tsz Tryz.prog 83 = (some 1) := by kernel_rfl
attribute [go_sem] tab_tsz_83
theorem tab_tbytes_83 : tbytes Tryz.prog 83 = (some 8) := by kernel_rfl
attribute [go_sem] tab_tbytes_83
theorem tab_tagg_83 : tagg Tryz.prog 83 = (some false) := by kernel_rfl
attribute [go_sem] tab_tagg_83
theorem tab_tsz_84 : tsz Tryz.prog 84 = (some 1) := by kernel_rfl
attribute [go_sem] tab_tsz_84
theorem tab_tbytes_84 : tbytes Tryz.prog 84 = (some 8) := by kernel_rfl
attribute [go_sem] tab_tbytes_84
theorem tab_tagg_84 : tagg Tryz.prog 84 = (some false) := by kernel_rfl
attribute [go_sem] tab_tagg_84
theorem tab_tsz_85 : tsz Tryz.prog 85 = (some 1) := by kernel_rfl
attribute [go_sem] tab_tsz_85
theorem tab_tbytes_85 : tbytes Tryz.prog 85 = (some 8) := by kernel_rfl
attribute [go_sem] tab_tbytes_85
theorem tab_tagg_85 : tagg Tryz.prog 85 = (some false) := by kernel_rfl
attribute [go_sem] tab_tagg_85
theorem tab_tsz_86 : tsz Tryz.prog 86 = (some 1) := by kernel_rfl
attribute [go_sem] tab_tsz_86
theorem tab_tbytes_86 : tbytes Tryz.prog 86 = (some 24) := by kernel_rfl
attribute [go_sem] tab_tbytes_86
theorem tab_tagg_86 : tagg Tryz.prog 86 = (some false) := by kernel_rfl
attribute [go_sem] tab_tagg_86
theorem tab_tslice_86 : tslice Tryz.prog 86 = (some 3) := by kernel_rfl
attribute [go_sem] tab_tslice_86
theorem tab_tsz_87 : tsz Tryz.prog 87 = (some 1) := by kernel_rfl
attribute [go_sem] tab_tsz_87
theorem tab_tbytes_87 : tbytes Tryz.prog 87 = (some 0) := by kernel_rfl
attribute [go_sem] tab_tbytes_87
theorem tab_tagg_87 : tagg Tryz.prog 87 = (some false) := by kernel_rfl
attribute [go_sem] tab_tagg_87
theorem tab_tsz_88 : tsz Tryz.prog 88 = (some 1) := by kernel_rfl
attribute [go_sem] tab_tsz_88
theorem tab_tbytes_88 : tbytes Tryz.prog 88 = (some 8) := by kernel_rfl
attribute [go_sem] tab_tbytes_88
theorem tab_tagg_88 : tagg Tryz.prog 88 = (some false) := by kernel_rfl
attribute [go_sem] tab_tagg_88
theorem tab_tsz_89 : tsz Tryz.prog 89 = (some 1) := by kernel_rfl
attribute [go_sem] tab_tsz_89
theorem tab_tbytes_89 : tbytes Tryz.prog 89 = (some 8) := by kernel_rfl
attribute [go_sem] tab_tbytes_89
theorem tab_tagg_89 : tagg Tryz.prog 89 = (some false) := by kernel_rfl
attribute [go_sem] tab_tagg_89
theorem tab_tsz_90 : tsz Tryz.prog 90 = (some 1) := by kernel_rfl
attribute [go_sem] tab_tsz_90
theorem tab_tbytes_90 : tbytes Tryz.prog 90 = (some 24) := by kernel_rfl
attribute [go_sem] tab_tbytes_90
theorem tab_tagg_90 : tagg Tryz.prog 90 = (some false) := by kernel_rfl
attribute [go_sem] tab_tagg_90
theorem tab_tslice_90 : tslice Tryz.prog 90 = (some 133) := by kernel_rfl
attribute [go_sem] tab_tslice_90
theorem tab_tsz_91 : tsz Tryz.prog 91 = (some 1) := by kernel_rfl
attribute [go_sem] tab_tsz_91
theorem tab_tbytes_91 : tbytes Tryz.prog 91 = (some 24) := by kernel_rfl
attribute [go_sem] tab_tbytes_91
theorem tab_tagg_91 : tagg Tryz.prog 91 = (some true) := by kernel_rfl
attribute [go_sem] tab_tagg_91
theorem tab_tfields_91 : tfields Tryz.prog 91 = (some [(0, (1, false))]) := by kernel_rfl
attribute [go_sem] tab_tfields_91
theorem tab_tsz_92 : tsz Tryz.prog 92 = (some 1) := by kernel_rfl
attribute [go_sem] tab_tsz_92
theorem tab_tbytes_92 : tbytes Tryz.prog 92 = (some 24) := by kernel_rfl
attribute [go_sem] tab_tbytes_92
theorem tab_tagg_92 : tagg Tryz.prog 92 = (some true) := by kernel_rfl
attribute [go_sem] tab_tagg_92
theorem tab_tfields_92 : tfields Tryz.prog 92 = (some [(0, (1, false))]) := by kernel_rfl
attribute [go_sem] tab_tfields_92
theorem tab_tsz_93 : tsz Tryz.prog 93 = (some 1) := by kernel_rfl
attribute [go_sem] tab_tsz_93
theorem tab_tbytes_93 : tbytes Tryz.prog 93 = (some 8) := by kernel_rfl
attribute [go_sem] tab_tbytes_93
theorem tab_tagg_93 : tagg Tryz.prog 93 = (some false) := by kernel_rfl
attribute [go_sem] tab_tagg_93
theorem tab_tsz_94 : tsz Tryz.prog 94 = (some 1) := by kernel_rfl
attribute [go_sem] tab_tsz_94
theorem tab_tbytes_94 : tbytes Tryz.prog 94 = (some 8) := by kernel_rfl
attribute [go_sem] tab_tbytes_94
theorem tab_tagg_94 : tagg Tryz.prog 94 = (some false) := by kernel_rfl
attribute [go_sem] tab_tagg_94
theorem tab_tsz_95 : tsz Tryz.prog 95 = (some 1) := by kernel_rfl
attribute [go_sem] tab_tsz_95
theorem tab_tbytes_95 : tbytes Tryz.prog 95 = (some 0) := by kernel_rfl
attribute [go_sem] tab_tbytes_95
theorem tab_tagg_95 : tagg Tryz.prog 95 = (some false) := by kernel_rfl
attribute [go_sem] tab_tagg_95
theorem tab_tsz_96 : tsz Tryz.prog 96 = (some 1) := by kernel_rfl
attribute [go_sem] tab_tsz_96
theorem tab_tbytes_96 : tbytes Tryz.prog 96 = (some 8) := by kernel_rfl
attribute [go_sem] tab_tbytes_96
theorem tab_tagg_96 : tagg Tryz.prog 96 = (some false) := by kernel_rfl
attribute [go_sem] tab_tagg_96
theorem tab_tsz_97 : tsz Tryz.prog 97 = (some 1) := by kernel_rfl
attribute [go_sem] tab_tsz_97
theorem tab_tbytes_97 : tbytes Tryz.prog 97 = (some 0) := by kernel_rfl
attribute [go_sem] tab_tbytes_97
theorem tab_tagg_97 : tagg Tryz.prog 97 = (some false) := by kernel_rfl
attribute [go_sem] tab_tagg_97
theorem tab_tsz_98 : tsz Tryz.prog 98 = (some 1) := by kernel_rfl
attribute [go_sem] tab_tsz_98
theorem tab_tbytes_98 : tbytes Tryz.prog 98 = (some 8) := by kernel_rfl
attribute [go_sem] tab_tbytes_98
theorem tab_tagg_98 : tagg Tryz.prog 98 = (some false) := by kernel_rfl
attribute [go_sem] tab_tagg_98
theorem tab_tsz_99 : tsz Tryz.prog 99 = (some 1) := by kernel_rfl
attribute [go_sem] tab_tsz_99
theorem tab_tbytes_99 : tbytes Tryz.prog 99 = (some 8) := by kernel_rfl
attribute [go_sem] tab_tbytes_99
theorem tab_tagg_99 : tagg Tryz.prog 99 = (some false) := by kernel_rfl
attribute [go_sem] tab_tagg_99
theorem tab_tsz_100 : tsz Tryz.prog 100 = (some 1) := by kernel_rfl
attribute [go_sem] tab_tsz_100
theorem tab_tbytes_100 : tbytes Tryz.prog 100 = (some 8) := by kernel_rfl
attribute [go_sem] tab_tbytes_100
theorem tab_tagg_100 : tagg Tryz.prog 100 = (some false) := by kernel_rfl
attribute [go_sem] tab_tagg_100
theorem tab_tsz_101 : tsz Tryz.prog 101 = (some 1) := by kernel_rfl
attribute [go_sem] tab_tsz_101
theorem tab_tbytes_101 : tbytes Tryz.prog 101 = (some 0) := by kernel_rfl
attribute [go_sem] tab_tbytes_101
theorem tab_tagg_101 : tagg Tryz.prog 101 = (some false) := by kernel_rfl
attribute [go_sem] tab_tagg_101
theorem tab_tsz_102 : tsz Tryz.prog 102 = (some 1) := by kernel_rfl
attribute [go_sem] tab_tsz_102
theorem tab_tbytes_102 : tbytes Tryz.prog 102 = (some 8) := by kernel_rfl
attribute [go_sem] tab_tbytes_102
theorem tab_tagg_102 : tagg Tryz.prog 102 = (some false) := by kernel_rfl
attribute [go_sem] tab_tagg_102
theorem tab_tsz_103 : tsz Tryz.prog 103 = (some 1) := by kernel_rfl
attribute [go_sem] tab_tsz_103
theorem tab_tbytes_103 : tbytes Tryz.prog 103 = (some 0) := by kernel_rfl
attribute [go_sem] tab_tbytes_103
theorem tab_tagg_103 : tagg Tryz.prog 103 = (some false) := by kernel_rfl
attribute [go_sem] tab_tagg_103
theorem tab_tsz_104 : tsz Tryz.prog 104 = (some 1) := by kernel_rfl
attribute [go_sem] tab_tsz_104
theorem tab_tbytes_104 : tbytes Tryz.prog 104 = (some 8) := by kernel_rfl
attribute [go_sem] tab_tbytes_104
theorem tab_tagg_104 : tagg Tryz.prog 104 = (some false) := by kernel_rfl
attribute [go_sem] tab_tagg_104
theorem tab_tsz_105 : tsz Tryz.prog 105 = (some 1) := by kernel_rfl
attribute [go_sem] tab_tsz_105
theorem tab_tbytes_105 : tbytes Tryz.prog 105 = (some 8) := by kernel_rfl
attribute [go_sem] tab_tbytes_105
theorem tab_tagg_105 : tagg Tryz.prog 105 = (some false) := by kernel_rfl
attribute [go_sem] tab_tagg_105
theorem tab_tsz_106 : tsz Tryz.prog 106 = (some 1) := by kernel_rfl
attribute [go_sem] tab_tsz_106
theorem tab_tbytes_106 : tbytes Tryz.prog 106 = (some 24) := by kernel_rfl
attribute [go_sem] tab_tbytes_106
theorem tab_tagg_106 : tagg Tryz.prog 106 = (some false) := by kernel_rfl
attribute [go_sem] tab_tagg_106
theorem tab_tslice_106 : tslice Tryz.prog 106 = (some 4) := by kernel_rfl
attribute [go_sem] tab_tslice_106
theorem tab_tsz_107 : tsz Tryz.prog 107 = (some 1) := by kernel_rfl
attribute [go_sem] tab_tsz_107
theorem tab_tbytes_107 : tbytes Tryz.prog 107 = (some 0) := by kernel_rfl
attribute [go_sem] tab_tbytes_107
theorem tab_tagg_107 : tagg Tryz.prog 107 = (some false) := by kernel_rfl
attribute [go_sem] tab_tagg_107
theorem tab_tsz_108 : tsz Tryz.prog 108 = (some 1) := by kernel_rfl
attribute [go_sem] tab_tsz_108
theorem tab_tbytes_108 : tbytes Tryz.prog 108 = (some 8) := by kernel_rfl
attribute [go_sem] tab_tbytes_108
theorem tab_tagg_108 : tagg Tryz.prog 108 = (some false) := by kernel_rfl
attribute [go_sem] tab_tagg_108
theorem tab_tsz_109 : tsz Tryz.prog 109 = (some 1) := by kernel_rfl
attribute [go_sem] tab_tsz_109
theorem tab_tbytes_109 : tbytes Tryz.prog 109 = (some 8) := by kernel_rfl
attribute [go_sem] tab_tbytes_109
theorem tab_tagg_109 : tagg Tryz.prog 109 = (some false) := by kernel_rfl
attribute [go_sem] tab_tagg_109
theorem tab_tsz_110 : tsz Tryz.prog 110 = (some 1) := by kernel_rfl
attribute [go_sem] tab_tsz_110
theorem tab_tbytes_110 : tbytes Tryz.prog 110 = (some 8) := by kernel_rfl
attribute [go_sem] tab_tbytes_110
theorem tab_tagg_110 : tagg Tryz.prog 110 = (some false) := by kernel_rfl
attribute [go_sem] tab_tagg_110
theorem tab_tsz_111 : tsz Tryz.prog 111 = (some 1) := by kernel_rfl
attribute [go_sem] tab_tsz_111
theorem tab_tbytes_111 : tbytes Tryz.prog 111 = (some 8) := by kernel_rfl
attribute [go_sem] tab_tbytes_111
theorem tab_tagg_111 : tagg Tryz.prog 111 = (some false) := by kernel_rfl
attribute [go_sem] tab_tagg_111
theorem tab_tsz_112 : tsz Tryz.prog 112 = (some 2) := by kernel_rfl
attribute [go_sem] tab_tsz_112
theorem tab_tbytes_112 : tbytes Tryz.prog 112 = (some 32) := by kernel_rfl
attribute [go_sem] tab_tbytes_112
theorem tab_tagg_112 : tagg Tryz.prog 112 = (some true) := by kernel_rfl
attribute [go_sem] tab_tagg_112
theorem tab_tfields_112 : tfields Tryz.prog 112 = (some [(0, (1, false)), (1, (1, false))]) := by kernel_rfl
attribute [go_sem] tab_tfields_112
theorem tab_tsz_113 : tsz Tryz.prog 113 = (some 2) := by kernel_rfl
attribute [go_sem] tab_tsz_113
theorem tab_tbytes_113 : tbytes Tryz.prog 113 = (some 32) := by kernel_rfl
attribute [go_sem] tab_tbytes_113
theorem tab_tagg_113 : tagg Tryz.prog 113 = (some true) := by kernel_rfl
attribute [go_sem] tab_tagg_113
theorem tab_tfields_113 : tfields Tryz.prog 113 = (some [(0, (1, false)), (1, (1, false))]) := by kernel_rfl
attribute [go_sem] tab_tfields_113
theorem tab_tsz_114 : tsz Tryz.prog 114 = (some 1) := by kernel_rfl
attribute [go_sem] tab_tsz_114
theorem tab_tbytes_114 : tbytes Tryz.prog 114 = (some 8) := by kernel_rfl
attribute [go_sem] tab_tbytes_114
theorem tab_tagg_114 : tagg Tryz.prog 114 = (some false) := by kernel_rfl
attribute [go_sem] tab_tagg_114
theorem tab_tsz_115 : tsz Tryz.prog 115 = (some 1) := by kernel_rfl
attribute [go_sem] tab_tsz_115
theorem tab_tbytes_115 : tbytes Tryz.prog 115 = (some 8) := by kernel_rfl
attribute [go_sem] tab_tbytes_115
theorem tab_tagg_115 : tagg Tryz.prog 115 = (some false) := by kernel_rfl
attribute [go_sem] tab_tagg_115
theorem tab_tsz_116 : tsz Tryz.prog 116 = (some 1) := by kernel_rfl
attribute [go_sem] tab_tsz_116
theorem tab_tbytes_116 : tbytes Tryz.prog 116 = (some 8) := by kernel_rfl
attribute [go_sem] tab_tbytes_116
theorem tab_tagg_116 : tagg Tryz.prog 116 = (some false) := by kernel_rfl
attribute [go_sem] tab_tagg_116
theorem tab_tsz_117 : tsz Tryz.prog 117 = (some 1) := by kernel_rfl
attribute [go_sem] tab_tsz_117
theorem tab_tbytes_117 : tbytes Tryz.prog 117 = (some 8) := by kernel_rfl
attribute [go_sem] tab_tbytes_117
theorem tab_tagg_117 : tagg Tryz.prog 117 = (some false) := by kernel_rfl
attribute [go_sem] tab_tagg_117
theorem tab_tsz_118 : tsz Tryz.prog 118 = (some 1) := by kernel_rfl
attribute [go_sem] tab_tsz_118
theorem tab_tbytes_118 : tbytes Tryz.prog 118 = (some 8) := by kernel_rfl
attribute [go_sem] tab_tbytes_118
theorem tab_tagg_118 : tagg Tryz.prog 118 = (some false) := by kernel_rfl
attribute [go_sem] tab_tagg_118
theorem tab_tsz_119 : tsz Tryz.prog 119 = (some 1) := by kernel_rfl
attribute [go_sem] tab_tsz_119
theorem tab_tbytes_119 : tbytes Tryz.prog 119 = (some 8) := by kernel_rfl
attribute [go_sem] tab_tbytes_119
theorem tab_tagg_119 : tagg Tryz.prog 119 = (some false) := by kernel_rfl
attribute [go_sem] tab_tagg_119
theorem tab_tsz_120 : tsz Tryz.prog 120 = (some 1) := by kernel_rfl
attribute [go_sem] tab_tsz_120
theorem tab_tbytes_120 : tbytes Tryz.prog 120 = (some 8) := by kernel_rfl
attribute [go_sem] tab_tbytes_120
theorem tab_tagg_120 : tagg Tryz.prog 120 = (some false) := by kernel_rfl
attribute [go_sem] tab_tagg_120
theorem tab_tsz_121 : tsz Tryz.prog 121 = (some 1) := by kernel_rfl
attribute [go_sem] tab_tsz_121
theorem tab_tbytes_121 : tbytes Tryz.prog 121 = (some 8) := by kernel_rfl
attribute [go_sem] tab_tbytes_121
theorem tab_tagg_121 : tagg Tryz.prog 121 = (some false) := by kernel_rfl
attribute [go_sem] tab_tagg_121
theorem tab_tsz_122 : tsz Tryz.prog 122 = (some 1) := by kernel_rfl
attribute [go_sem] tab_tsz_122
theorem tab_tbytes_122 : tbytes Tryz.prog 122 = (some 8) := by kernel_rfl
attribute [go_sem] tab_tbytes_122
theorem tab_tagg_122 : tagg Tryz.prog 122 = (some false) := by kernel_rfl
attribute [go_sem] tab_tagg_122
theorem tab_tsz_123 : tsz Tryz.prog 123 = (some 4) := by kernel_rfl
attribute [go_sem] tab_tsz_123
theorem tab_tbytes_123 : tbytes Tryz.prog 123 = (some 32) := by kernel_rfl
attribute [go_sem] tab_tbytes_123
theorem tab_tagg_123 : tagg Tryz.prog 123 = (some true) := by kernel_rfl
attribute [go_sem] tab_tagg_123
theorem tab_tfields_123 : tfields Tryz.prog 123 = (some [(0, (4, true))]) := by kernel_rfl
attribute [go_sem] tab_tfields_123
theorem tab_tsz_124 : tsz Tryz.prog 124 = (some 4) := by kernel_rfl
attribute [go_sem] tab_tsz_124
theorem tab_tbytes_124 : tbytes Tryz.prog 124 = (some 32) := by kernel_rfl
attribute [go_sem] tab_tbytes_124
theorem tab_tagg_124 : tagg Tryz.prog 124 = (some true) := by kernel_rfl
attribute [go_sem] tab_tagg_124
theorem tab_tfields_124 : tfields Tryz.prog 124 = (some [(0, (4, true))]) := by kernel_rfl
attribute [go_sem] tab_tfields_124
theorem tab_tsz_125 : tsz Tryz.prog 125 = (some 1) := by kernel_rfl
attribute [go_sem] tab_tsz_125
theorem tab_tbytes_125 : tbytes Tryz.prog 125 = (some 0) := by kernel_rfl
attribute [go_sem] tab_tbytes_125
theorem tab_tagg_125 : tagg Tryz.prog 125 = (some false) := by kernel_rfl
attribute [go_sem] tab_tagg_125
theorem tab_tsz_126 : tsz Tryz.prog 126 = (some 1) := by kernel_rfl
attribute [go_sem] tab_tsz_126
theorem tab_tbytes_126 : tbytes Tryz.prog 126 = (some 8) := by kernel_rfl
attribute [go_sem] tab_tbytes_126
theorem tab_tagg_126 : tagg Tryz.prog 126 = (some false) := by kernel_rfl
attribute [go_sem] tab_tagg_126
theorem tab_tsz_127 : tsz Tryz.prog 127 = (some 1) := by kernel_rfl
attribute [go_sem] tab_tsz_127
theorem tab_tbytes_127 : tbytes Tryz.prog 127 = (some 8) := by kernel_rfl
attribute [go_sem] tab_tbytes_127
theorem tab_tagg_127 : tagg Tryz.prog 127 = (some false) := by kernel_rfl
attribute [go_sem] tab_tagg_127
theorem tab_tsz_128 : tsz Tryz.prog 128 = (some 2) := by kernel_rfl
attribute [go_sem] tab_tsz_128
theorem tab_tbytes_128 : tbytes Tryz.prog 128 = (some 16) := by kernel_rfl
attribute [go_sem] tab_tbytes_128
theorem tab_tagg_128 : tagg Tryz.prog 128 = (some true) := by kernel_rfl
attribute [go_sem] tab_tagg_128
theorem tab_tfields_128 : tfields Tryz.prog 128 = (some [(0, (1, false)), (1, (1, false))]) := by kernel_rfl
attribute [go_sem] tab_tfields_128
theorem tab_teq_128 : teq Tryz.prog 128 = (some [(0, false), (1, true)]) := by kernel_rfl
attribute [go_sem] tab_teq_128
theorem tab_tsz_129 : tsz Tryz.prog 129 = (some 2) := by kernel_rfl
attribute [go_sem] tab_tsz_129
theorem tab_tbytes_129 : tbytes Tryz.prog 129 = (some 16) := by kernel_rfl
attribute [go_sem] tab_tbytes_129
theorem tab_tagg_129 : tagg Tryz.prog 129 = (some true) := by kernel_rfl
attribute [go_sem] tab_tagg_129
theorem tab_tfields_129 : tfields Tryz.prog 129 = (some [(0, (1, false)), (1, (1, false))]) := by kernel_rfl
attribute [go_sem] tab_tfields_129
theorem tab_teq_129 : teq Tryz.prog 129 = (some [(0, false), (1, true)]) := by kernel_rfl
attribute [go_sem] tab_teq_129
theorem tab_tsz_130 : tsz Tryz.prog 130 = (some 1) := by kernel_rfl
attribute [go_sem] tab_tsz_130
theorem tab_tbytes_130 : tbytes Tryz.prog 130 = (some 8) := by kernel_rfl
attribute [go_sem] tab_tbytes_130
theorem tab_tagg_130 : tagg Tryz.prog 130 = (some false) := by kernel_rfl
attribute [go_sem] tab_tagg_130
theorem tab_tsz_131 : tsz Tryz.prog 131 = (some 1) := by kernel_rfl
attribute [go_sem] tab_tsz_131
theorem tab_tbytes_131 : tbytes Tryz.prog 131 = (some 8) := by kernel_rfl
attribute [go_sem] tab_tbytes_131
theorem tab_tagg_131 : tagg Tryz.prog 131 = (some false) := by kernel_rfl
attribute [go_sem] tab_tagg_131
theorem tab_tsz_132 : tsz Tryz.prog 132 = (some 6) := by kernel_rfl
attribute [go_sem] tab_tsz_132
theorem tab_tbytes_132 : tbytes Tryz.prog 132 = (some 48) := by kernel_rfl
attribute [go_sem] tab_tbytes_132
theorem tab_tagg_132 : tagg Tryz.prog 132 = (some true) := by kernel_rfl
attribute [go_sem] tab_tagg_132
theorem tab_tfields_132 : tfields Tryz.prog 132 = (some [(0, (2, true)), (2, (2, true)), (4, (2, true))]) := by kernel_rfl
attribute [go_sem] tab_tfields_132
theorem tab_teq_132 : teq Tryz.prog 132 = (some [(0, false), (1, false), (2, false), (3, false), (4, false), (5, false)]) := by kernel_rfl
attribute [go_sem] tab_teq_132
theorem tab_tsz_133 : tsz Tryz.prog 133 = (some 6) := by kernel_rfl
attribute [go_sem] tab_tsz_133
theorem tab_tbytes_133 : tbytes Tryz.prog 133 = (some 48) := by kernel_rfl
attribute [go_sem] tab_tbytes_133
theorem tab_tagg_133 : tagg Tryz.prog 133 = (some true) := by kernel_rfl
attribute [go_sem] tab_tagg_133
theorem tab_tfields_133 : tfields Tryz.prog 133 = (some [(0, (2, true)), (2, (2, true)), (4, (2, true))]) := by kernel_rfl
attribute [go_sem] tab_tfields_133
theorem tab_teq_133 : teq Tryz.prog 133 = (some [(0, false), (1, false), (2, false), (3, false), (4, false), (5, false)]) := by kernel_rfl
attribute [go_sem] tab_teq_133
theorem tab_tsz_134 : tsz Tryz.prog 134 = (some 1) := by kernel_rfl
attribute [go_sem] tab_tsz_134
theorem tab_tbytes_134 : tbytes Tryz.prog 134 = (some 8) := by kernel_rfl
attribute [go_sem] tab_tbytes_134
theorem tab_tagg_134 : tagg Tryz.prog 134 = (some false) := by kernel_rfl
attribute [go_sem] tab_tagg_134
theorem tab_tsz_135 : tsz Tryz.prog 135 = (some 1) := by kernel_rfl
attribute [go_sem] tab_tsz_135
theorem tab_tbytes_135 : tbytes Tryz.prog 135 = (some 8) := by kernel_rfl
attribute [go_sem] tab_tbytes_135
theorem tab_tagg_135 : tagg Tryz.prog 135 = (some false) := by kernel_rfl
attribute [go_sem] tab_tagg_135
theorem tab_tsz_136 : tsz Tryz.prog 136 = (some 1) := by kernel_rfl
attribute [go_sem] tab_tsz_136
theorem tab_tbytes_136 : tbytes Tryz.prog 136 = (some 8) := by kernel_rfl
attribute [go_sem] tab_tbytes_136
theorem tab_tagg_136 : tagg Tryz.prog 136 = (some false) := by kernel_rfl
attribute [go_sem] tab_tagg_136
theorem tab_tsz_137 : tsz Tryz.prog 137 = (some 1) := by kernel_rfl
attribute [go_sem] tab_tsz_137
theorem tab_tbytes_137 : tbytes Tryz.prog 137 = (some 8) := by kernel_rfl
attribute [go_sem] tab_tbytes_137
theorem tab_tagg_137 : tagg Tryz.prog 137 = (some false) := by kernel_rfl
attribute [go_sem] tab_tagg_137
theorem tab_tsz_138 : tsz Tryz.prog 138 = (some 1) := by kernel_rfl
attribute [go_sem] tab_tsz_138
theorem tab_tbytes_138 : tbytes Tryz.prog 138 = (some 24) := by kernel_rfl
attribute [go_sem] tab_tbytes_138
theorem tab_tagg_138 : tagg Tryz.prog 138 = (some false) := by kernel_rfl
attribute [go_sem] tab_tagg_138
theorem tab_tslice_138 : tslice Tryz.prog 138 = (some 90) := by kernel_rfl
attribute [go_sem] tab_tslice_138
theorem tab_tsz_139 : tsz Tryz.prog 139 = (some 3) := by kernel_rfl
attribute [go_sem] tab_tsz_139
theorem tab_tbytes_139 : tbytes Tryz.prog 139 = (some 56) := by kernel_rfl
attribute [go_sem] tab_tbytes_139
theorem tab_tagg_139 : tagg Tryz.prog 139 = (some true) := by kernel_rfl
attribute [go_sem] tab_tagg_139
theorem tab_tfields_139 : tfields Tryz.prog 139 = (some [(0, (1, false)), (1, (1, false)), (2, (1, false))]) := by kernel_rfl
attribute [go_sem] tab_tfields_139
theorem tab_tsz_140 : tsz Tryz.prog 140 = (some 3) := by kernel_rfl
attribute [go_sem] tab_tsz_140
theorem tab_tbytes_140 : tbytes Tryz.prog 140 = (some 56) := by kernel_rfl
attribute [go_sem] tab_tbytes_140
theorem tab_tagg_140 : tagg Tryz.prog 140 = (some true) := by kernel_rfl
attribute [go_sem] tab_tagg_140
theorem tab_tfields_140 : tfields Tryz.prog 140 = (some [(0, (1, false)), (1, (1, false)), (2, (1, false))]) := by kernel_rfl
attribute [go_sem] tab_tfields_140
theorem tab_tsz_141 : tsz Tryz.prog 141 = (some 1) := by kernel_rfl
attribute [go_sem] tab_tsz_141
theorem tab_tbytes_141 : tbytes Tryz.prog 141 = (some 8) := by kernel_rfl
attribute [go_sem] tab_tbytes_141
theorem tab_tagg_141 : tagg Tryz.prog 141 = (some false) := by kernel_rfl
attribute [go_sem] tab_tagg_141
theorem tab_tsz_142 : tsz Tryz.prog 142 = (some 1) := by kernel_rfl
attribute [go_sem] tab_tsz_142
theorem tab_tbytes_142 : tbytes Tryz.prog 142 = (some 8) := by kernel_rfl
attribute [go_sem] tab_tbytes_142
theorem tab_tagg_142 : tagg Tryz.prog 142 = (some false) := by kernel_rfl
attribute [go_sem] tab_tagg_142
theorem tab_tsz_143 : tsz Tryz.prog 143 = (some 1) := by kernel_rfl
attribute [go_sem] tab_tsz_143
theorem tab_tbytes_143 : tbytes Tryz.prog 143 = (some 8) := by kernel_rfl
attribute [go_sem] tab_tbytes_143
theorem tab_tagg_143 : tagg Tryz.prog 143 = (some false) := by kernel_rfl
attribute [go_sem] tab_tagg_143
theorem tab_tsz_144 : tsz Tryz.prog 144 = (some 1) := by kernel_rfl
attribute [go_sem] tab_tsz_144
theorem tab_tbytes_144 : tbytes Tryz.prog 144 = (some 8) := by kernel_rfl
attribute [go_sem] tab_tbytes_144
theorem tab_tagg_144 : tagg Tryz.prog 144 = (some false) := by kernel_rfl
attribute [go_sem] tab_tagg_144
theorem tab_tsz_145 : tsz Tryz.prog 145 = (some 6) := by kernel_rfl
attribute [go_sem] tab_tsz_145
theorem tab_tbytes_145 : tbytes Tryz.prog 145 = (some 64) := by kernel_rfl
attribute [go_sem] tab_tbytes_145
theorem tab_tagg_145 : tagg Tryz.prog 145 = (some true) := by kernel_rfl
attribute [go_sem] tab_tagg_145
theorem tab_tfields_145 : tfields Tryz.prog 145 = (some [(0, (2, true)), (2, (4, true))]) := by kernel_rfl
attribute [go_sem] tab_tfields_145
theorem tab_tsz_146 : tsz Tryz.prog 146 = (some 6) := by kernel_rfl
attribute [go_sem] tab_tsz_146
theorem tab_tbytes_146 : tbytes Tryz.prog 146 = (some 64) := by kernel_rfl
attribute [go_sem] tab_tbytes_146
theorem tab_tagg_146 : tagg Tryz.prog 146 = (some true) := by kernel_rfl
attribute [go_sem] tab_tagg_146
theorem tab_tfields_146 : tfields Tryz.prog 146 = (some [(0, (2, true)), (2, (4, true))]) := by kernel_rfl
attribute [go_sem] tab_tfields_146
theorem tab_tsz_147 : tsz Tryz.prog 147 = (some 1) := by kernel_rfl
attribute [go_sem] tab_tsz_147
theorem tab_tbytes_147 : tbytes Tryz.prog 147 = (some 0) := by kernel_rfl
attribute [go_sem] tab_tbytes_147
theorem tab_tagg_147 : tagg Tryz.prog 147 = (some false) := by kernel_rfl
attribute [go_sem] tab_tagg_147
theorem tab_tsz_148 : tsz Tryz.prog 148 = (some 1) := by kernel_rfl
attribute [go_sem] tab_tsz_148
theorem tab_tbytes_148 : tbytes Tryz.prog 148 = (some 8) := by kernel_rfl
attribute [go_sem] tab_tbytes_148
theorem tab_tagg_148 : tagg Tryz.prog 148 = (some false) := by kernel_rfl
attribute [go_sem] tab_tagg_148
theorem tab_tsz_149 : tsz Tryz.prog 149 = (some 2) := by kernel_rfl
attribute [go_sem] tab_tsz_149
theorem tab_tbytes_149 : tbytes Tryz.prog 149 = (some 48) := by kernel_rfl
attribute [go_sem] tab_tbytes_149
theorem tab_tagg_149 : tagg Tryz.prog 149 = (some true) := by kernel_rfl
attribute [go_sem] tab_tagg_149
theorem tab_tfields_149 : tfields Tryz.prog 149 = (some [(0, (1, false)), (1, (1, false))]) := by kernel_rfl
attribute [go_sem] tab_tfields_149
theorem tab_tsz_150 : tsz Tryz.prog 150 = (some 2) := by kernel_rfl
attribute [go_sem] tab_tsz_150
theorem tab_tbytes_150 : tbytes Tryz.prog 150 = (some 48) := by kernel_rfl
attribute [go_sem] tab_tbytes_150
theorem tab_tagg_150 : tagg Tryz.prog 150 = (some true) := by kernel_rfl
attribute [go_sem] tab_tagg_150
theorem tab_tfields_150 : tfields Tryz.prog 150 = (some [(0, (1, false)), (1, (1, false))]) := by kernel_rfl
attribute [go_sem] tab_tfields_150
theorem tab_tsz_151 : tsz Tryz.prog 151 = (some 1) := by kernel_rfl
attribute [go_sem] tab_tsz_151
theorem tab_tbytes_151 : tbytes Tryz.prog 151 = (some 8) := by kernel_rfl
attribute [go_sem] tab_tbytes_151
theorem tab_tagg_151 : tagg Tryz.prog 151 = (some false) := by kernel_rfl
attribute [go_sem] tab_tagg_151
theorem tab_tsz_152 : tsz Tryz.prog 152 = (some 1) := by kernel_rfl
attribute [go_sem] tab_tsz_152
theorem tab_tbytes_152 : tbytes Tryz.prog 152 = (some 8) := by kernel_rfl
attribute [go_sem] tab_tbytes_152
theorem tab_tagg_152 : tagg Tryz.prog 152 = (some false) := by kernel_rfl
attribute [go_sem] tab_tagg_152
theorem tab_tsz_153 : tsz Tryz.prog 153 = (some 1) := by kernel_rfl
attribute [go_sem] tab_tsz_153
theorem tab_tbytes_153 : tbytes Tryz.prog 153 = (some 8) := by kernel_rfl
attribute [go_sem] tab_tbytes_153
theorem tab_tagg_153 : tagg Tryz.prog 153 = (some false) := by kernel_rfl
attribute [go_sem] tab_tagg_153
theorem tab_tsz_154 : tsz Tryz.prog 154 = (some 1) := by kernel_rfl
attribute [go_sem] tab_tsz_154
theorem tab_tbytes_154 : tbytes Tryz.prog 154 = (some 8) := by kernel_rfl
attribute [go_sem] tab_tbytes_154
theorem tab_tagg_154 : tagg Tryz.prog 154 = (some false) := by kernel_rfl
attribute [go_sem] tab_tagg_154
theorem tab_tsz_155 : tsz Tryz.prog 155 = (some 1) := by kernel_rfl
attribute [go_sem] tab_tsz_155
theorem tab_tbytes_155 : tbytes Tryz.prog 155 = (some 8) := by kernel_rfl
attribute [go_sem] tab_tbytes_155
theorem tab_tagg_155 : tagg Tryz.prog 155 = (some false) := by kernel_rfl
attribute [go_sem] tab_tagg_155
theorem tab_tsz_156 : tsz Tryz.prog 156 = (some 1) := by kernel_rfl
attribute [go_sem] tab_tsz_156
theorem tab_tbytes_156 : tbytes Tryz.prog 156 = (some 8) := by kernel_rfl
attribute [go_sem] tab_tbytes_156
theorem tab_tagg_156 : tagg Tryz.prog 156 = (some false) := by kernel_rfl
attribute [go_sem] tab_tagg_156
theorem tab_tsz_157 : tsz Tryz.prog 157 = (some 1) := by kernel_rfl
attribute [go_sem] tab_tsz_157
theorem tab_tbytes_157 : tbytes Tryz.prog 157 = (some 8) := by kernel_rfl
attribute [go_sem] tab_tbytes_157
theorem tab_tagg_157 : tagg Tryz.prog 157 = (some false) := by kernel_rfl
attribute [go_sem] tab_tagg_157
theorem tab_tsz_158 : tsz Tryz.prog 158 = (some 1) := by kernel_rfl
attribute [go_sem] tab_tsz_158
theorem tab_tbytes_158 : tbytes Tryz.prog 158 = (some 8) := by kernel_rfl
attribute [go_sem] tab_tbytes_158
theorem tab_tagg_158 : tagg Tryz.prog 158 = (some false) := by kernel_rfl
attribute [go_sem] tab_tagg_158
theorem tab_tsz_159 : tsz Tryz.prog 159 = (some 1) := by kernel_rfl
attribute [go_sem] tab_tsz_159
theorem tab_tbytes_159 : tbytes Tryz.prog 159 = (some 0) := by kernel_rfl
attribute [go_sem] tab_tbytes_159
theorem tab_tagg_159 : tagg Tryz.prog 159 = (some false) := by kernel_rfl
attribute [go_sem] tab_tagg_159
theorem tab_tsz_160 : tsz Tryz.prog 160 = (some 1) := by kernel_rfl
attribute [go_sem] tab_tsz_160
theorem tab_tbytes_160 : tbytes Tryz.prog 160 = (some 8) := by kernel_rfl
attribute [go_sem] tab_tbytes_160
theorem tab_tagg_160 : tagg Tryz.prog 160 = (some false) := by kernel_rfl
attribute [go_sem] tab_tagg_160
theorem tab_tsz_161 : tsz Tryz.prog 161 = (some 1) := by kernel_rfl
attribute [go_sem] tab_tsz_161
theorem tab_tbytes_161 : tbytes Tryz.prog 161 = (some 8) := by kernel_rfl
attribute [go_sem] tab_tbytes_161
theorem tab_tagg_161 : tagg Tryz.prog 161 = (some false) := by kernel_rfl
attribute [go_sem] tab_tagg_161
theorem tab_tsz_162 : tsz Tryz.prog 162 = (some 1) := by kernel_rfl
attribute [go_sem] tab_tsz_162
theorem tab_tbytes_162 : tbytes Tryz.prog 162 = (some 8) := by kernel_rfl
attribute [go_sem] tab_tbytes_162
theorem tab_tagg_162 : tagg Tryz.prog 162 = (some false) := by kernel_rfl
attribute [go_sem] tab_tagg_162
theorem tab_tsz_163 : tsz Tryz.prog 163 = (some 1) := by kernel_rfl
attribute [go_sem] tab_tsz_163
theorem tab_tbytes_163 : tbytes Tryz.prog 163 = (some 8) := by kernel_rfl
attribute [go_sem] tab_tbytes_163
theorem tab_tagg_163 : tagg Tryz.prog 163 = (some false) := by kernel_rfl
attribute [go_sem] tab_tagg_163
theorem tab_tsz_164 : tsz Tryz.prog 164 = (some 1) := by kernel_rfl
attribute [go_sem] tab_tsz_164
theorem tab_tbytes_164 : tbytes Tryz.prog 164 = (some 8) := by kernel_rfl
attribute [go_sem] tab_tbytes_164
theorem tab_tagg_164 : tagg Tryz.prog 164 = (some false) := by kernel_rfl
attribute [go_sem] tab_tagg_164
theorem tab_tsz_165 : tsz Tryz.prog 165 = (some 1) := by kernel_rfl
attribute [go_sem] tab_tsz_165
theorem tab_tbytes_165 : tbytes Tryz.prog 165 = (some 8) := by kernel_rfl
attribute [go_sem] tab_tbytes_165
theorem tab_tagg_165 : tagg Tryz.prog 165 = (some false) := by kernel_rfl
attribute [go_sem] tab_tagg_165
theorem tab_tsz_166 : tsz Tryz.prog 166 = (some 1) := by kernel_rfl
attribute [go_sem] tab_tsz_166
theorem tab_tbytes_166 : tbytes Tryz.prog 166 = (some 8) := by kernel_rfl
attribute [go_sem] tab_tbytes_166
theorem tab_tagg_166 : tagg Tryz.prog 166 = (some false) := by kernel_rfl
attribute [go_sem] tab_tagg_166
theorem tab_tsz_167 : tsz Tryz.prog 167 = (some 1) := by kernel_rfl
attribute [go_sem] tab_tsz_167
theorem tab_tbytes_167 : tbytes Tryz.prog 167 = (some 8) := by kernel_rfl
attribute [go_sem] tab_tbytes_167
theorem tab_tagg_167 : tagg Tryz.prog 167 = (some false) := by kernel_rfl
attribute [go_sem] tab_tagg_167
theorem tab_tsz_168 : tsz Tryz.prog 168 = (some 1) := by kernel_rfl
attribute [go_sem] tab_tsz_168
theorem tab_tbytes_168 : tbytes Tryz.prog 168 = (some 8) := by kernel_rfl
attribute [go_sem] tab_tbytes_168
theorem tab_tagg_168 : tagg Tryz.prog 168 = (some false) := by kernel_rfl
attribute [go_sem] tab_tagg_168
theorem tab_tsz_169 : tsz Tryz.prog 169 = (some 1) := by kernel_rfl
attribute [go_sem] tab_tsz_169
theorem tab_tbytes_169 : tbytes Tryz.prog 169 = (some 8) := by kernel_rfl
attribute [go_sem] tab_tbytes_169
theorem tab_tagg_169 : tagg Tryz.prog 169 = (some false) := by kernel_rfl
attribute [go_sem] tab_tagg_169
theorem tab_tsz_170 : tsz Tryz.prog 170 = (some 1) := by kernel_rfl
attribute [go_sem] tab_tsz_170
theorem tab_tbytes_170 : tbytes Tryz.prog 170 = (some 8) := by kernel_rfl
attribute [go_sem] tab_tbytes_170
theorem tab_tagg_170 : tagg Tryz.prog 170 = (some false) := by kernel_rfl
attribute [go_sem] tab_tagg_170
theorem tab_tsz_171 : tsz Tryz.prog 171 = (some 1) := by kernel_rfl
attribute [go_sem] tab_tsz_171
theorem tab_tbytes_171 : tbytes Tryz.prog 171 = (some 8) := by kernel_rfl
attribute [go_sem] tab_tbytes_171
theorem tab_tagg_171 : tagg Tryz.prog 171 = (some false) := by kernel_rfl
attribute [go_sem] tab_tagg_171
theorem tab_tsz_172 : tsz Tryz.prog 172 = (some 1) := by kernel_rfl
attribute [go_sem] tab_tsz_172
theorem tab_tbytes_172 : tbytes Tryz.prog 172 = (some 8) := by kernel_rfl
attribute [go_sem] tab_tbytes_172
theorem tab_tagg_172 : tagg Tryz.prog 172 = (some false) := by kernel_rfl
attribute [go_sem] tab_tagg_172
theorem tab_tsz_173 : tsz Tryz.prog 173 = (some 1) := by kernel_rfl
attribute [go_sem] tab_tsz_173
theorem tab_tbytes_173 : tbytes Tryz.prog 173 = (some 8) := by kernel_rfl
attribute [go_sem] tab_tbytes_173
theorem tab_tagg_173 : tagg Tryz.prog 173 = (some false) := by kernel_rfl
attribute [go_sem] tab_tagg_173
theorem tab_tsz_174 : tsz Tryz.prog 174 = (some 1) := by kernel_rfl
attribute [go_sem] tab_tsz_174
theorem tab_tbytes_174 : tbytes Tryz.prog 174 = (some 8) := by kernel_rfl
attribute [go_sem] tab_tbytes_174
theorem tab_tagg_174 : tagg Tryz.prog 174 = (some false) := by kernel_rfl
attribute [go_sem] tab_tagg_174
theorem tab_tsz_175 : tsz Tryz.prog 175 = (some 1) := by kernel_rfl
attribute [go_sem] tab_tsz_175
theorem tab_tbytes_175 : tbytes Tryz.prog 175 = (some 8) := by kernel_rfl
attribute [go_sem] tab_tbytes_175
theorem tab_tagg_175 : tagg Tryz.prog 175 = (some false) := by kernel_rfl
attribute [go_sem] tab_tagg_175
theorem tab_tsz_176 : tsz Tryz.prog 176 = (some 1) := by kernel_rfl
attribute [go_sem] tab_tsz_176
theorem tab_tbytes_176 : tbytes Tryz.prog 176 = (some 8) := by kernel_rfl
attribute [go_sem] tab_tbytes_176
theorem tab_tagg_176 : tagg Tryz.prog 176 = (some false) := by kernel_rfl
attribute [go_sem] tab_tagg_176
theorem tab_tsz_177 : tsz Tryz.prog 177 = (some 1) := by kernel_rfl
attribute [go_sem] tab_tsz_177
theorem tab_tbytes_177 : tbytes Tryz.prog 177 = (some 8) := by kernel_rfl
attribute [go_sem] tab_tbytes_177
theorem tab_tagg_177 : tagg Tryz.prog 177 = (some false) := by kernel_rfl
attribute [go_sem] tab_tagg_177
theorem tab_tsz_178 : tsz Tryz.prog 178 = (some 1) := by kernel_rfl
attribute [go_sem] tab_tsz_178
theorem tab_tbytes_178 : tbytes Tryz.prog 178 = (some 8) := by kernel_rfl
attribute [go_sem] tab_tbytes_178
theorem tab_tagg_178 : tagg Tryz.prog 178 = (some false) := by kernel_rfl
attribute [go_sem] tab_tagg_178
theorem tab_tsz_179 : tsz Tryz.prog 179 = (some 1) := by kernel_rfl
attribute [go_sem] tab_tsz_179
theorem tab_tbytes_179 : tbytes Tryz.prog 179 = (some 8) := by kernel_rfl
attribute [go_sem] tab_tbytes_179
theorem tab_tagg_179 : tagg Tryz.prog 179 = (some false) := by kernel_rfl
attribute [go_sem] tab_tagg_179
theorem tab_tsz_180 : tsz Tryz.prog 180 = (some 1) := by kernel_rfl
attribute [go_sem] tab_tsz_180
theorem tab_tbytes_180 : tbytes Tryz.prog 180 = (some 8) := by kernel_rfl
attribute [go_sem] tab_tbytes_180
theorem tab_tagg_180 : tagg Tryz.prog 180 = (some false) := by kernel_rfl
attribute [go_sem] tab_tagg_180
theorem tab_tsz_181 : tsz Tryz.prog 181 = (some 1) := by kernel_rfl
attribute [go_sem] tab_tsz_181
theorem tab_tbytes_181 : tbytes Tryz.prog 181 = (some 8) := by kernel_rfl
attribute [go_sem] tab_tbytes_181
theorem tab_tagg_181 : tagg Tryz.prog 181 = (some false) := by kernel_rfl
attribute [go_sem] tab_tagg_181
theorem tab_tsz_182 : tsz Tryz.prog 182 = (some 1) := by kernel_rfl
attribute [go_sem] tab_tsz_182
theorem tab_tbytes_182 : tbytes Tryz.prog 182 = (some 8) := by kernel_rfl
attribute [go_sem] tab_tbytes_182
theorem tab_tagg_182 : tagg Tryz.prog 182 = (some false) := by kernel_rfl
attribute [go_sem] tab_tagg_182
theorem tab_tsz_183 : tsz Tryz.prog 183 = (some 1) := by kernel_rfl
attribute [go_sem] tab_tsz_183
theorem tab_tbytes_183 : tbytes Tryz.prog 183 = (some 8) := by kernel_rfl
attribute [go_sem] tab_tbytes_183
theorem tab_tagg_183 : tagg Tryz.prog 183 = (some false) := by kernel_rfl
attribute [go_sem] tab_tagg_183
theorem tab_tsz_184 : tsz Tryz.prog 184 = (some 1) := by kernel_rfl
attribute [go_sem] tab_tsz_184
theorem tab_tbytes_184 : tbytes Tryz.prog 184 = (some 8) := by kernel_rfl
attribute [go_sem] tab_tbytes_184
theorem tab_tagg_184 : tagg Tryz.prog 184 = (some false) := by kernel_rfl
attribute [go_sem] tab_tagg_184
theorem tab_tsz_185 : tsz Tryz.prog 185 = (some 1) := by kernel_rfl
attribute [go_sem] tab_tsz_185
theorem tab_tbytes_185 : tbytes Tryz.prog 185 = (some 8) := by kernel_rfl
attribute [go_sem] tab_tbytes_185
theorem tab_tagg_185 : tagg Tryz.prog 185 = (some false) := by kernel_rfl
attribute [go_sem] tab_tagg_185
theorem tab_tsz_186 : tsz Tryz.prog 186 = (some 1) := by kernel_rfl
attribute [go_sem] tab_tsz_186
theorem tab_tbytes_186 : tbytes Tryz.prog 186 = (some 8) := by kernel_rfl
attribute [go_sem] tab_tbytes_186
theorem tab_tagg_186 : tagg Tryz.prog 186 = (some false) := by kernel_rfl
attribute [go_sem] tab_tagg_186
theorem tab_tsz_187 : tsz Tryz.prog 187 = (some 1) := by kernel_rfl
attribute [go_sem] tab_tsz_187
theorem tab_tbytes_187 : tbytes Tryz.prog 187 = (some 8) := by kernel_rfl
attribute [go_sem] tab_tbytes_187
theorem tab_tagg_187 : tagg Tryz.prog 187 = (some false) := by kernel_rfl
attribute [go_sem] tab_tagg_187
theorem tab_tsz_188 : tsz Tryz.prog 188 = (some 1) := by kernel_rfl
attribute [go_sem] tab_tsz_188
theorem tab_tbytes_188 : tbytes Tryz.prog 188 = (some 8) := by kernel_rfl
attribute [go_sem] tab_tbytes_188
theorem tab_tagg_188 : tagg Tryz.prog 188 = (some false) := by kernel_rfl
attribute [go_sem] tab_tagg_188
theorem tab_tsz_189 : tsz Tryz.prog 189 = (some 1) := by kernel_rfl
attribute [go_sem] tab_tsz_189
theorem tab_tbytes_189 : tbytes Tryz.prog 189 = (some 8) := by kernel_rfl
attribute [go_sem] tab_tbytes_189
theorem tab_tagg_189 : tagg Tryz.prog 189 = (some false) := by kernel_rfl
attribute [go_sem] tab_tagg_189
theorem tab_tsz_190 : tsz Tryz.prog 190 = (some 1) := by kernel_rfl
attribute [go_sem] tab_tsz_190
theorem tab_tbytes_190 : tbytes Tryz.prog 190 = (some 8) := by kernel_rfl
attribute [go_sem] tab_tbytes_190
theorem tab_tagg_190 : tagg Tryz.prog 190 = (some false) := by kernel_rfl
attribute [go_sem] tab_tagg_190
theorem tab_tsz_191 : tsz Tryz.prog 191 = (some 1) := by kernel_rfl
attribute [go_sem] tab_tsz_191
theorem tab_tbytes_191 : tbytes Tryz.prog 191 = (some 0) := by kernel_rfl
attribute [go_sem] tab_tbytes_191
theorem tab_tagg_191 : tagg Tryz.prog 191 = (some false) := by kernel_rfl
attribute [go_sem] tab_tagg_191
theorem tab_tsz_192 : tsz Tryz.prog 192 = (some 1) := by kernel_rfl
attribute [go_sem] tab_tsz_192
theorem tab_tbytes_192 : tbytes Tryz.prog 192 = (some 8) := by kernel_rfl
attribute [go_sem] tab_tbytes_192
theorem tab_tagg_192 : tagg Tryz.prog 192 = (some false) := by kernel_rfl
attribute [go_sem] tab_tagg_192
theorem tab_tsz_193 : tsz Tryz.prog 193 = (some 1) := by kernel_rfl
attribute [go_sem] tab_tsz_193
theorem tab_tbytes_193 : tbytes Tryz.prog 193 = (some 8) := by kernel_rfl
attribute [go_sem] tab_tbytes_193
theorem tab_tagg_193 : tagg Tryz.prog 193 = (some false) := by kernel_rfl
attribute [go_sem] tab_tagg_193
theorem tab_tsz_194 : tsz Tryz.prog 194 = (some 1) := by kernel_rfl
attribute [go_sem] tab_tsz_194
theorem tab_tbytes_194 : tbytes Tryz.prog 194 = (some 8) := by kernel_rfl
attribute [go_sem] tab_tbytes_194
theorem tab_tagg_194 : tagg Tryz.prog 194 = (some false) := by kernel_rfl
attribute [go_sem] tab_tagg_194
theorem tab_tmapK_194 : tmapK Tryz.prog 194 = (some (none, 3)) := by kernel_rfl
attribute [go_sem] tab_tmapK_194
theorem tab_tsz_195 : tsz Tryz.prog 195 = (some 1) := by kernel_rfl
attribute [go_sem] tab_tsz_195
theorem tab_tbytes_195 : tbytes Tryz.prog 195 = (some 8) := by kernel_rfl
attribute [go_sem] tab_tbytes_195
theorem tab_tagg_195 : tagg Tryz.prog 195 = (some false) := by kernel_rfl
attribute [go_sem] tab_tagg_195
theorem tab_tsz_196 : tsz Tryz.prog 196 = (some 1) := by kernel_rfl
attribute [go_sem] tab_tsz_196
theorem tab_tbytes_196 : tbytes Tryz.prog 196 = (some 8) := by kernel_rfl
attribute [go_sem] tab_tbytes_196
theorem tab_tagg_196 : tagg Tryz.prog 196 = (some false) := by kernel_rfl
attribute [go_sem] tab_tagg_196
theorem tab_tsz_197 : tsz Tryz.prog 197 = (some 1) := by kernel_rfl
attribute [go_sem] tab_tsz_197
theorem tab_tbytes_197 : tbytes Tryz.prog 197 = (some 8) := by kernel_rfl
attribute [go_sem] tab_tbytes_197
theorem tab_tagg_197 : tagg Tryz.prog 197 = (some false) := by kernel_rfl
attribute [go_sem] tab_tagg_197
theorem tab_tint_197 : tint Tryz.prog 197 = (some IntKind.u64) := by kernel_rfl
attribute [go_sem] tab_tint_197
theorem tab_tsz_198 : tsz Tryz.prog 198 = (some 1) := by kernel_rfl
attribute [go_sem] tab_tsz_198
theorem tab_tbytes_198 : tbytes Tryz.prog 198 = (some 0) := by kernel_rfl
attribute [go_sem] tab_tbytes_198
theorem tab_tagg_198 : tagg Tryz.prog 198 = (some false) := by kernel_rfl
attribute [go_sem] tab_tagg_198
theorem tab_tsz_199 : tsz Tryz.prog 199 = (some 1) := by kernel_rfl
attribute [go_sem] tab_tsz_199
theorem tab_tbytes_199 : tbytes Tryz.prog 199 = (some 8) := by kernel_rfl
attribute [go_sem] tab_tbytes_199
theorem tab_tagg_199 : tagg Tryz.prog 199 = (some false) := by kernel_rfl
attribute [go_sem] tab_tagg_199
theorem tab_tsz_200 : tsz Tryz.prog 200 = (some 1) := by kernel_rfl
attribute [go_sem] tab_tsz_200
theorem tab_tbytes_200 : tbytes Tryz.prog 200 = (some 8) := by kernel_rfl
attribute [go_sem] tab_tbytes_200
theorem tab_tagg_200 : tagg Tryz.prog 200 = (some false) := by kernel_rfl
attribute [go_sem] tab_tagg_200
theorem tab_tsz_201 : tsz Tryz.prog 201 = (some 1) := by kernel_rfl
attribute [go_sem] tab_tsz_201
theorem tab_tbytes_201 : tbytes Tryz.prog 201 = (some 8) := by kernel_rfl
attribute [go_sem] tab_tbytes_201
theorem tab_tagg_201 : tagg Tryz.prog 201 = (some false) := by kernel_rfl
attribute [go_sem] tab_tagg_201
theorem tab_tsz_202 : tsz Tryz.prog 202 = (some 1) := by kernel_rfl
attribute [go_sem] tab_tsz_202
theorem tab_tbytes_202 : tbytes Tryz.prog 202 = (some 8) := by kernel_rfl
attribute [go_sem] tab_tbytes_202
theorem tab_tagg_202 : tagg Tryz.prog 202 = (some false) := by kernel_rfl
attribute [go_sem] tab_tagg_202
theorem tab_tsz_203 : tsz Tryz.prog 203 = (some 1) := by kernel_rfl
attribute [go_sem] tab_tsz_203
theorem tab_tbytes_203 : tbytes Tryz.prog 203 = (some 8) := by kernel_rfl
attribute [go_sem] tab_tbytes_203
theorem tab_tagg_203 : tagg Tryz.prog 203 = (some false) := by kernel_rfl
attribute [go_sem] tab_tagg_203
theorem tab_tsz_204 : tsz Tryz.prog 204 = (some 1) := by kernel_rfl
attribute [go_sem] tab_tsz_204
theorem tab_tbytes_204 : tbytes Tryz.prog 204 = (some 8) := by kernel_rfl
attribute [go_sem] tab_tbytes_204
theorem tab_tagg_204 : tagg Tryz.prog 204 = (some false) := by kernel_rfl
attribute [go_sem] tab_tagg_204
theorem tab_tsz_205 : tsz Tryz.prog 205 = (some 1) := by kernel_rfl
attribute [go_sem] tab_tsz_205
theorem tab_tbytes_205 : tbytes Tryz.prog 205 = (some 8) := by kernel_rfl
attribute [go_sem] tab_tbytes_205
theorem tab_tagg_205 : tagg Tryz.prog 205 = (some false) := by kernel_rfl
attribute [go_sem] tab_tagg_205
theorem tab_tsz_206 : tsz Tryz.prog 206 = (some 1) := by kernel_rfl
attribute [go_sem] tab_tsz_206
theorem tab_tbytes_206 : tbytes Tryz.prog 206 = (some 4) := by kernel_rfl
attribute [go_sem] tab_tbytes_206
theorem tab_tagg_206 : tagg Tryz.prog 206 = (some false) := by kernel_rfl
attribute [go_sem] tab_tagg_206
theorem tab_tint_206 : tint Tryz.prog 206 = (some IntKind.u32) := by kernel_rfl
attribute [go_sem] tab_tint_206
theorem tab_tsz_207 : tsz Tryz.prog 207 = (some 1) := by kernel_rfl
attribute [go_sem] tab_tsz_207
theorem tab_tbytes_207 : tbytes Tryz.prog 207 = (some 0) := by kernel_rfl
attribute [go_sem] tab_tbytes_207
theorem tab_tagg_207 : tagg Tryz.prog 207 = (some false) := by kernel_rfl
attribute [go_sem] tab_tagg_207
theorem tab_tsz_208 : tsz Tryz.prog 208 = (some 1) := by kernel_rfl
attribute [go_sem] tab_tsz_208
theorem tab_tbytes_208 : tbytes Tryz.prog 208 = (some 8) := by kernel_rfl
attribute [go_sem] tab_tbytes_208
theorem tab_tagg_208 : tagg Tryz.prog 208 = (some false) := by kernel_rfl
attribute [go_sem] tab_tagg_208
theorem tab_tsz_209 : tsz Tryz.prog 209 = (some 1) := by kernel_rfl
attribute [go_sem] tab_tsz_209
theorem tab_tbytes_209 : tbytes Tryz.prog 209 = (some 8) := by kernel_rfl
attribute [go_sem] tab_tbytes_209
theorem tab_tagg_209 : tagg Tryz.prog 209 = (some false) := by kernel_rfl
attribute [go_sem] tab_tagg_209
theorem tab_tint_209 : tint Tryz.prog 209 = (some IntKind.u64) := by kernel_rfl
attribute [go_sem] tab_tint_209
theorem tab_tsz_210 : tsz Tryz.prog 210 = (some 1) := by kernel_rfl
attribute [go_sem] tab_tsz_210
theorem tab_tbytes_210 : tbytes Tryz.prog 210 = (some 0) := by kernel_rfl
attribute [go_sem] tab_tbytes_210
theorem tab_tagg_210 : tagg Tryz.prog 210 = (some false) := by kernel_rfl
attribute [go_sem] tab_tagg_210
theorem tab_tsz_211 : tsz Tryz.prog 211 = (some 1) := by kernel_rfl
attribute [go_sem] tab_tsz_211
theorem tab_tbytes_211 : tbytes Tryz.prog 211 = (some 8) := by kernel_rfl
attribute [go_sem] tab_tbytes_211
theorem tab_tagg_211 : tagg Tryz.prog 211 = (some false) := by kernel_rfl
attribute [go_sem] tab_tagg_211
theorem tab_tsz_212 : tsz Tryz.prog 212 = (some 1) := by kernel_rfl
attribute [go_sem] tab_tsz_212
theorem tab_tbytes_212 : tbytes Tryz.prog 212 = (some 8) := by kernel_rfl
attribute [go_sem] tab_tbytes_212
theorem tab_tagg_212 : tagg Tryz.prog 212 = (some false) := by kernel_rfl
attribute [go_sem] tab_tagg_212
theorem tab_tsz_213 : tsz Tryz.prog 213 = (some 1) := by kernel_rfl
attribute [go_sem] tab_tsz_213
theorem tab_tbytes_213 : tbytes Tryz.prog 213 = (some 8) := by kernel_rfl
attribute [go_sem] tab_tbytes_213
theorem tab_tagg_213 : tagg Tryz.prog 213 = (some false) := by kernel_rfl
attribute [go_sem] tab_tagg_213
theorem tab_tsz_214 : tsz Tryz.prog 214 = (some 1) := by kernel_rfl
attribute [go_sem] tab_tsz_214
theorem tab_tbytes_214 : tbytes Tryz.prog 214 = (some 8) := by kernel_rfl
attribute [go_sem] tab_tbytes_214
theorem tab_tagg_214 : tagg Tryz.prog 214 = (some false) := by kernel_rfl
attribute [go_sem] tab_tagg_214
theorem tab_tsz_215 : tsz Tryz.prog 215 = (some 4) := by kernel_rfl
attribute [go_sem] tab_tsz_215
theorem tab_tbytes_215 : tbytes Tryz.prog 215 = (some 40) := by kernel_rfl
attribute [go_sem] tab_tbytes_215
theorem tab_tagg_215 : tagg Tryz.prog 215 = (some true) := by kernel_rfl
attribute [go_sem] tab_tagg_215
theorem tab_tfields_215 : tfields Tryz.prog 215 = (some [(0, (1, false)), (1, (1, false)), (2, (1, false)), (3, (1, false))]) := by kernel_rfl
attribute [go_sem] tab_tfields_215
theorem tab_tsz_216 : tsz Tryz.prog 216 = (some 4) := by kernel_rfl
attribute [go_sem] tab_tsz_216
theorem tab_tbytes_216 : tbytes Tryz.prog 216 = (some 40) := by kernel_rfl
attribute [go_sem] tab_tbytes_216
theorem tab_tagg_216 : tagg Tryz.prog 216 = (some true) := by kernel_rfl
attribute [go_sem] tab_tagg_216
theorem tab_tfields_216 : tfields Tryz.prog 216 = (some [(0, (1, false)), (1, (1, false)), (2, (1, false)), (3, (1, false))]) := by kernel_rfl
attribute [go_sem] tab_tfields_216
theorem tab_tsz_217 : tsz Tryz.prog 217 = (some 0) := by kernel_rfl
attribute [go_sem] tab_tsz_217
theorem tab_tbytes_217 : tbytes Tryz.prog 217 = (some 0) := by kernel_rfl
attribute [go_sem] tab_tbytes_217
theorem tab_tagg_217 : tagg Tryz.prog 217 = (some true) := by kernel_rfl
attribute [go_sem] tab_tagg_217
theorem tab_tsz_218 : tsz Tryz.prog 218 = (some 0) := by kernel_rfl
attribute [go_sem] tab_tsz_218
theorem tab_tbytes_218 : tbytes Tryz.prog 218 = (some 0) := by kernel_rfl
attribute [go_sem] tab_tbytes_218
theorem tab_tagg_218 : tagg Tryz.prog 218 = (some true) := by kernel_rfl
attribute [go_sem] tab_tagg_218
theorem tab_tfields_218 : tfields Tryz.prog 218 = (some [(0, (0, true))]) := by kernel_rfl
attribute [go_sem] tab_tfields_218
theorem tab_tsz_219 : tsz Tryz.prog 219 = (some 0) := by kernel_rfl
attribute [go_sem] tab_tsz_219
theorem tab_tbytes_219 : tbytes Tryz.prog 219 = (some 0) := by kernel_rfl
attribute [go_sem] tab_tbytes_219
theorem tab_tagg_219 : tagg Tryz.prog 219 = (some true) := by kernel_rfl
attribute [go_sem] tab_tagg_219
theorem tab_tfields_219 : tfields Tryz.prog 219 = (some [(0, (0, true))]) := by kernel_rfl
attribute [go_sem] tab_tfields_219
theorem tab_tsz_220 : tsz Tryz.prog 220 = (some 1) := by kernel_rfl
attribute [go_sem] tab_tsz_220
theorem tab_tbytes_220 : tbytes Tryz.prog 220 = (some 8) := by kernel_rfl
attribute [go_sem] tab_tbytes_220
theorem tab_tagg_220 : tagg Tryz.prog 220 = (some false) := by kernel_rfl
attribute [go_sem] tab_tagg_220
theorem tab_tsz_221 : tsz Tryz.prog 221 = (some 1) := by kernel_rfl
attribute [go_sem] tab_tsz_221
theorem tab_tbytes_221 : tbytes Tryz.prog 221 = (some 1) := by kernel_rfl
attribute [go_sem] tab_tbytes_221
theorem tab_tagg_221 : tagg Tryz.prog 221 = (some false) := by kernel_rfl
attribute [go_sem] tab_tagg_221
theorem tab_tint_221 : tint Tryz.prog 221 = (some IntKind.u8) := by kernel_rfl
attribute [go_sem] tab_tint_221
theorem tab_tsz_222 : tsz Tryz.prog 222 = (some 1) := by kernel_rfl
attribute [go_sem] tab_tsz_222
theorem tab_tbytes_222 : tbytes Tryz.prog 222 = (some 1) := by kernel_rfl
attribute [go_sem] tab_tbytes_222
theorem tab_tagg_222 : tagg Tryz.prog 222 = (some false) := by kernel_rfl
attribute [go_sem] tab_tagg_222
theorem tab_tint_222 : tint Tryz.prog 222 = (some IntKind.u8) := by kernel_rfl
attribute [go_sem] tab_tint_222
theorem tab_tsz_223 : tsz Tryz.prog 223 = (some 1) := by kernel_rfl
attribute [go_sem] tab_tsz_223
theorem tab_tbytes_223 : tbytes Tryz.prog 223 = (some 8) := by kernel_rfl
attribute [go_sem] tab_tbytes_223
theorem tab_tagg_223 : tagg Tryz.prog 223 = (some false) := by kernel_rfl
attribute [go_sem] tab_tagg_223
theorem tab_tsz_224 : tsz Tryz.prog 224 = (some 1) := by kernel_rfl
attribute [go_sem] tab_tsz_224
theorem tab_tbytes_224 : tbytes Tryz.prog 224 = (some 8) := by kernel_rfl
attribute [go_sem] tab_tbytes_224
theorem tab_tagg_224 : tagg Tryz.prog 224 = (some false) := by kernel_rfl
attribute [go_sem] tab_tagg_224
theorem tab_tsz_225 : tsz Tryz.prog 225 = (some 1) := by kernel_rfl
attribute [go_sem] tab_tsz_225
theorem tab_tbytes_225 : tbytes Tryz.prog 225 = (some 4) := by kernel_rfl
attribute [go_sem] tab_tbytes_225
theorem tab_tagg_225 : tagg Tryz.prog 225 = (some false) := by kernel_rfl
attribute [go_sem] tab_tagg_225
theorem tab_tint_225 : tint Tryz.prog 225 = (some IntKind.i32) := by kernel_rfl
attribute [go_sem] tab_tint_225
theorem tab_tsz_226 : tsz Tryz.prog 226 = (some 1) := by kernel_rfl
attribute [go_sem] tab_tsz_226
theorem tab_tbytes_226 : tbytes Tryz.prog 226 = (some 4) := by kernel_rfl
attribute [go_sem] tab_tbytes_226
theorem tab_tagg_226 : tagg Tryz.prog 226 = (some false) := by kernel_rfl
attribute [go_sem] tab_tagg_226
theorem tab_tint_226 : tint Tryz.prog 226 = (some IntKind.i32) := by kernel_rfl
attribute [go_sem] tab_tint_226
theorem tab_tsz_227 : tsz Tryz.prog 227 = (some 11) := by kernel_rfl
attribute [go_sem] tab_tsz_227
theorem tab_tbytes_227 : tbytes Tryz.prog 227 = (some 48) := by kernel_rfl
attribute [go_sem] tab_tbytes_227
theorem tab_tagg_227 : tagg Tryz.prog 227 = (some true) := by kernel_rfl
attribute [go_sem] tab_tagg_227
theorem tab_tfields_227 : tfields Tryz.prog 227 = (some [(0, (1, false)), (1, (1, false)), (2, (1, false)), (3, (1, false)), (4, (1, false)), (5, (1, false)), (6, (1, false)), (7, (1, false)), (8, (1, false)), (9, (1, false)), (10, (1, false))]) := by kernel_rfl
attribute [go_sem] tab_tfields_227
theorem tab_tsz_228 : tsz Tryz.prog 228 = (some 11) := by kernel_rfl
attribute [go_sem] tab_tsz_228
theorem tab_tbytes_228 : tbytes Tryz.prog 228 = (some 48) := by kernel_rfl
attribute [go_sem] tab_tbytes_228
theorem tab_tagg_228 : tagg Tryz.prog 228 = (some true) := by kernel_rfl
attribute [go_sem] tab_tagg_228
theorem tab_tfields_228 : tfields Tryz.prog 228 = (some [(0, (1, false)), (1, (1, false)), (2, (1, false)), (3, (1, false)), (4, (1, false)), (5, (1, false)), (6, (1, false)), (7, (1, false)), (8, (1, false)), (9, (1, false)), (10, (1, false))]) := by kernel_rfl
attribute [go_sem] tab_tfields_228
theorem tab_tsz_229 : tsz Tryz.prog 229 = (some 1) := by kernel_rfl
attribute [go_sem] tab_tsz_229
theorem tab_tbytes_229 : tbytes Tryz.prog 229 = (some 8) := by kernel_rfl
attribute [go_sem] tab_tbytes_229
theorem tab_tagg_229 : tagg Tryz.prog 229 = (some false) := by kernel_rfl
attribute [go_sem] tab_tagg_229
theorem tab_zero_1 : tzero Tryz.prog 1 = some Value.nilFunc := by kernel_rfl
attribute [go_sem] tab_zero_1
theorem tab_zero_2 : tzero Tryz.prog 2 = some (Value.int IntKind.i64 0) := by kernel_rfl
attribute [go_sem] tab_zero_2
theorem tab_zero_3 : tzero Tryz.prog 3 = some (Value.int IntKind.i64 0) := by kernel_rfl
attribute [go_sem] tab_zero_3
theorem tab_zero_4 : tzero Tryz.prog 4 = some (Value.bool false) := by kernel_rfl
attribute [go_sem] tab_zero_4
theorem tab_zero_5 : tzero Tryz.prog 5 = some (Value.int IntKind.u8 0) := by kernel_rfl
attribute [go_sem] tab_zero_5
theorem tab_zero_6 : tzero Tryz.prog 6 = some (Value.int IntKind.u8 0) := by kernel_rfl
attribute [go_sem] tab_zero_6
theorem tab_zero_7 : tzero Tryz.prog 7 = some (Value.agg #[Value.int IntKind.i64 0, Value.int IntKind.i64 0, Value.bool false, Value.int IntKind.u8 0]) := by kernel_rfl
attribute [go_sem] tab_zero_7
theorem tab_zero_8 : tzero Tryz.prog 8 = some (Value.agg #[Value.int IntKind.i64 0, Value.int IntKind.i64 0, Value.bool false, Value.int IntKind.u8 0]) := by kernel_rfl
attribute [go_sem] tab_zero_8
theorem tab_zero_12 : tzero Tryz.prog 12 = some (Value.int IntKind.u64 0) := by kernel_rfl
attribute [go_sem] tab_zero_12
theorem tab_zero_15 : tzero Tryz.prog 15 = some (Value.pointer none) := by kernel_rfl
attribute [go_sem] tab_zero_15
theorem tab_zero_16 : tzero Tryz.prog 16 = some (Value.pointer none) := by kernel_rfl
attribute [go_sem] tab_zero_16
theorem tab_zero_17 : tzero Tryz.prog 17 = some (Value.pointer none) := by kernel_rfl
attribute [go_sem] tab_zero_17
theorem tab_zero_18 : tzero Tryz.prog 18 = some (Value.agg #[Value.pointer none]) := by kernel_rfl
attribute [go_sem] tab_zero_18
theorem tab_zero_19 : tzero Tryz.prog 19 = some (Value.agg #[Value.pointer none]) := by kernel_rfl
attribute [go_sem] tab_zero_19
theorem tab_zero_21 : tzero Tryz.prog 21 = some (Value.int IntKind.i32 0) := by kernel_rfl
attribute [go_sem] tab_zero_21
theorem tab_zero_22 : tzero Tryz.prog 22 = some (Value.slice none 0 0) := by kernel_rfl
attribute [go_sem] tab_zero_22
theorem tab_zero_23 : tzero Tryz.prog 23 = some (Value.agg #[Value.slice none 0 0]) := by kernel_rfl
attribute [go_sem] tab_zero_23
theorem tab_zero_24 : tzero Tryz.prog 24 = some (Value.agg #[Value.slice none 0 0]) := by kernel_rfl
attribute [go_sem] tab_zero_24
theorem tab_zero_25 : tzero Tryz.prog 25 = some (Value.slice none 0 0) := by kernel_rfl
attribute [go_sem] tab_zero_25
theorem tab_zero_26 : tzero Tryz.prog 26 = some (Value.slice none 0 0) := by kernel_rfl
attribute [go_sem] tab_zero_26
theorem tab_zero_27 : tzero Tryz.prog 27 = some (Value.agg #[Value.int IntKind.i64 0, Value.slice none 0 0]) := by kernel_rfl
attribute [go_sem] tab_zero_27
theorem tab_zero_28 : tzero Tryz.prog 28 = some (Value.agg #[Value.int IntKind.i64 0, Value.slice none 0 0]) := by kernel_rfl
attribute [go_sem] tab_zero_28
theorem tab_zero_29 : tzero Tryz.prog 29 = some (Value.slice none 0 0) := by kernel_rfl
attribute [go_sem] tab_zero_29
theorem tab_zero_30 : tzero Tryz.prog 30 = some (Value.agg #[Value.int IntKind.i64 0, Value.slice none 0 0, Value.slice none 0 0, Value.int IntKind.i64 0]) := by kernel_rfl
attribute [go_sem] tab_zero_30
theorem tab_zero_31 : tzero Tryz.prog 31 = some (Value.agg #[Value.int IntKind.i64 0, Value.slice none 0 0, Value.slice none 0 0, Value.int IntKind.i64 0]) := by kernel_rfl
attribute [go_sem] tab_zero_31
theorem tab_zero_32 : tzero Tryz.prog 32 = some Value.nilFunc := by kernel_rfl
attribute [go_sem] tab_zero_32
theorem tab_zero_33 : tzero Tryz.prog 33 = some Value.nilFunc := by kernel_rfl
attribute [go_sem] tab_zero_33
theorem tab_zero_34 : tzero Tryz.prog 34 = some Value.nilFunc := by kernel_rfl
attribute [go_sem] tab_zero_34
theorem tab_zero_35 : tzero Tryz.prog 35 = some Value.nilFunc := by kernel_rfl
attribute [go_sem] tab_zero_35
theorem tab_zero_36 : tzero Tryz.prog 36 = some Value.nilFunc := by kernel_rfl
attribute [go_sem] tab_zero_36
theorem tab_zero_37 : tzero Tryz.prog 37 = some (Value.slice none 0 0) := by kernel_rfl
attribute [go_sem] tab_zero_37
theorem tab_zero_38 : tzero Tryz.prog 38 = some (Value.int IntKind.i64 0) := by kernel_rfl
attribute [go_sem] tab_zero_38
theorem tab_zero_40 : tzero Tryz.prog 40 = some Value.nilFunc := by kernel_rfl
attribute [go_sem] tab_zero_40
theorem tab_zero_41 : tzero Tryz.prog 41 = some Value.nilFunc := by kernel_rfl
attribute [go_sem] tab_zero_41
theorem tab_zero_43 : tzero Tryz.prog 43 = some Value.nilFunc := by kernel_rfl
attribute [go_sem] tab_zero_43
theorem tab_zero_44 : tzero Tryz.prog 44 = some Value.nilFunc := by kernel_rfl
attribute [go_sem] tab_zero_44
theorem tab_zero_45 : tzero Tryz.prog 45 = some Value.nilFunc := by kernel_rfl
attribute [go_sem] tab_zero_45
theorem tab_zero_46 : tzero Tryz.prog 46 = some (Value.slice none 0 0) := by kernel_rfl
attribute [go_sem] tab_zero_46
theorem tab_zero_47 : tzero Tryz.prog 47 = some (Value.agg #[Value.int IntKind.i64 0, Value.int IntKind.i64 0]) := by kernel_rfl
attribute [go_sem] tab_zero_47
theorem tab_zero_48 : tzero Tryz.prog 48 = some (Value.agg #[Value.int IntKind.i64 0, Value.int IntKind.i64 0]) := by kernel_rfl
attribute [go_sem] tab_zero_48
theorem tab_zero_49 : tzero Tryz.prog 49 = some (Value.agg #[Value.int IntKind.i64 0, Value.int IntKind.i64 0, Value.int IntKind.i64 0, Value.int IntKind.i64 0]) := by kernel_rfl
attribute [go_sem] tab_zero_49
theorem tab_zero_50 : tzero Tryz.prog 50 = some (Value.agg #[Value.int IntKind.i64 0, Value.int IntKind.i64 0, Value.int IntKind.i64 0, Value.int IntKind.i64 0]) := by kernel_rfl
attribute [go_sem] tab_zero_50
theorem tab_zero_51 : tzero Tryz.prog 51 = some (Value.agg #[Value.slice none 0 0, Value.slice none 0 0, Value.int IntKind.i64 0, Value.int IntKind.i64 0, Value.int IntKind.i64 0, Value.int IntKind.i64 0, Value.int IntKind.i64 0]) := by kernel_rfl
attribute [go_sem] tab_zero_51
theorem tab_zero_52 : tzero Tryz.prog 52 = some (Value.agg #[Value.slice none 0 0, Value.slice none 0 0, Value.int IntKind.i64 0, Value.int IntKind.i64 0, Value.int IntKind.i64 0, Value.int IntKind.i64 0, Value.int IntKind.i64 0]) := by kernel_rfl
attribute [go_sem] tab_zero_52
theorem tab_zero_53 : tzero Tryz.prog 53 = some Value.nilFunc := by kernel_rfl
attribute [go_sem] tab_zero_53
theorem tab_zero_54 : tzero Tryz.prog 54 = some Value.nilFunc := by kernel_rfl
attribute [go_sem] tab_zero_54
theorem tab_zero_55 : tzero Tryz.prog 55 = some (Value.agg #[Value.int IntKind.i64 0, Value.int IntKind.i64 0, Value.int IntKind.i64 0, Value.int IntKind.i64 0, Value.int IntKind.i64 0, Value.int IntKind.i64 0, Value.int IntKind.i64 0, Value.slice none 0 0]) := by kernel_rfl
attribute [go_sem] tab_zero_55
theorem tab_zero_56 : tzero Tryz.prog 56 = some (Value.agg #[Value.int IntKind.i64 0, Value.int IntKind.i64 0, Value.int IntKind.i64 0, Value.int IntKind.i64 0, Value.int IntKind.i64 0, Value.int IntKind.i64 0, Value.int IntKind.i64 0, Value.slice none 0 0]) := by kernel_rfl
attribute [go_sem] tab_zero_56
theorem tab_zero_57 : tzero Tryz.prog 57 = some Value.nilFunc := by kernel_rfl
attribute [go_sem] tab_zero_57
theorem tab_zero_58 : tzero Tryz.prog 58 = some Value.nilFunc := by kernel_rfl
attribute [go_sem] tab_zero_58
theorem tab_zero_59 : tzero Tryz.prog 59 = some Value.nilFunc := by kernel_rfl
attribute [go_sem] tab_zero_59
theorem tab_zero_60 : tzero Tryz.prog 60 = some (Value.agg #[Value.int IntKind.i64 0, Value.int IntKind.i64 0, Value.int IntKind.i64 0, Value.int IntKind.i64 0, Value.int IntKind.i64 0, Value.int IntKind.i64 0]) := by kernel_rfl
attribute [go_sem] tab_zero_60
theorem tab_zero_61 : tzero Tryz.prog 61 = some (Value.agg #[Value.int IntKind.i64 0, Value.int IntKind.i64 0, Value.int IntKind.i64 0, Value.int IntKind.i64 0, Value.int IntKind.i64 0, Value.int IntKind.i64 0]) := by kernel_rfl
attribute [go_sem] tab_zero_61
theorem tab_zero_62 : tzero Tryz.prog 62 = some Value.nilFunc := by kernel_rfl
attribute [go_sem] tab_zero_62
theorem tab_zero_64 : tzero Tryz.prog 64 = some Value.nilFunc := by kernel_rfl
attribute [go_sem] tab_zero_64
theorem tab_zero_66 : tzero Tryz.prog 66 = some Value.nilFunc := by kernel_rfl
attribute [go_sem] tab_zero_66
theorem tab_zero_67 : tzero Tryz.prog 67 = some Value.nilFunc := by kernel_rfl
attribute [go_sem] tab_zero_67
theorem tab_zero_68 : tzero Tryz.prog 68 = some (Value.agg #[Value.int IntKind.i64 0, Value.int IntKind.i64 0, Value.int IntKind.i64 0]) := by kernel_rfl
attribute [go_sem] tab_zero_68
theorem tab_zero_69 : tzero Tryz.prog 69 = some (Value.agg #[Value.int IntKind.i64 0, Value.int IntKind.i64 0, Value.int IntKind.i64 0]) := by kernel_rfl
attribute [go_sem] tab_zero_69
theorem tab_zero_70 : tzero Tryz.prog 70 = some (Value.agg #[Value.int IntKind.i64 0, Value.int IntKind.i64 0, Value.int IntKind.i64 0, Value.int IntKind.i64 0]) := by kernel_rfl
attribute [go_sem] tab_zero_70
theorem tab_zero_71 : tzero Tryz.prog 71 = some (Value.agg #[Value.int IntKind.i64 0, Value.int IntKind.i64 0, Value.int IntKind.i64 0, Value.int IntKind.i64 0]) := by kernel_rfl
attribute [go_sem] tab_zero_71
theorem tab_zero_72 : tzero Tryz.prog 72 = some (Value.agg #[Value.int IntKind.i64 0, Value.int IntKind.i64 0, Value.int IntKind.i64 0, Value.int IntKind.i64 0, Value.int IntKind.i64 0, Value.int IntKind.i64 0, Value.int IntKind.i64 0, Value.int IntKind.i64 0]) := by kernel_rfl
attribute [go_sem] tab_zero_72
theorem tab_zero_73 : tzero Tryz.prog 73 = some (Value.agg #[Value.int IntKind.i64 0, Value.int IntKind.i64 0, Value.int IntKind.i64 0, Value.int IntKind.i64 0, Value.int IntKind.i64 0, Value.int IntKind.i64 0, Value.int IntKind.i64 0, Value.int IntKind.i64 0]) := by kernel_rfl
attribute [go_sem] tab_zero_73
theorem tab_zero_74 : tzero Tryz.prog 74 = some (Value.agg #[Value.int IntKind.i64 0, Value.int IntKind.i64 0, Value.int IntKind.i64 0, Value.int IntKind.i64 0]) := by kernel_rfl
attribute [go_sem] tab_zero_74
theorem tab_zero_75 : tzero Tryz.prog 75 = some (Value.agg #[Value.int IntKind.i64 0, Value.int IntKind.i64 0, Value.int IntKind.i64 0, Value.int IntKind.i64 0]) := by kernel_rfl
attribute [go_sem] tab_zero_75
theorem tab_zero_76 : tzero Tryz.prog 76 = some (Value.agg #[Value.slice none 0 0, Value.int IntKind.i64 0, Value.int IntKind.i64 0, Value.int IntKind.i64 0, Value.int IntKind.i64 0, Value.int IntKind.i64 0, Value.int IntKind.i64 0, Value.int IntKind.i64 0, Value.int IntKind.i64 0, Value.int IntKind.i64 0, Value.int IntKind.i64 0, Value.int IntKind.i64 0, Value.int IntKind.i64 0, Value.int IntKind.i64 0, Value.int IntKind.i64 0]) := by kernel_rfl
attribute [go_sem] tab_zero_76
theorem tab_zero_77 : tzero Tryz.prog 77 = some (Value.agg #[Value.slice none 0 0, Value.int IntKind.i64 0, Value.int IntKind.i64 0, Value.int IntKind.i64 0, Value.int IntKind.i64 0, Value.int IntKind.i64 0, Value.int IntKind.i64 0, Value.int IntKind.i64 0, Value.int IntKind.i64 0, Value.int IntKind.i64 0, Value.int IntKind.i64 0, Value.int IntKind.i64 0, Value.int IntKind.i64 0, Value.int IntKind.i64 0, Value.int IntKind.i64 0]) := by kernel_rfl
attribute [go_sem] tab_zero_77
theorem tab_zero_78 : tzero Tryz.prog 78 = some (Value.agg #[Value.int IntKind.i64 0, Value.int IntKind.i64 0, Value.int IntKind.i64 0, Value.int IntKind.i64 0, Value.int IntKind.i64 0, Value.int IntKind.i64 0]) := by kernel_rfl
attribute [go_sem] tab_zero_78
theorem tab_zero_79 : tzero Tryz.prog 79 = some (Value.agg #[Value.int IntKind.i64 0, Value.int IntKind.i64 0, Value.int IntKind.i64 0, Value.int IntKind.i64 0, Value.int IntKind.i64 0, Value.int IntKind.i64 0]) := by kernel_rfl
attribute [go_sem] tab_zero_79
theorem tab_zero_80 : tzero Tryz.prog 80 = some Value.nilFunc := by kernel_rfl
attribute [go_sem] tab_zero_80
theorem tab_zero_81 : tzero Tryz.prog 81 = some Value.nilFunc := by kernel_rfl
attribute [go_sem] tab_zero_81
theorem tab_zero_82 : tzero Tryz.prog 82 = some Value.nilFunc := by kernel_rfl
attribute [go_sem] tab_zero_82
theorem tab_zero_83 : tzero Tryz.prog 83 = some Value.nilFunc := by kernel_rfl
attribute [go_sem] tab_zero_83
theorem tab_zero_84 : tzero Tryz.prog 84 = some Value.nilFunc := by kernel_rfl
attribute [go_sem] tab_zero_84
theorem tab_zero_85 : tzero Tryz.prog 85 = some Value.nilFunc := by kernel_rfl
attribute [go_sem] tab_zero_85
theorem tab_zero_86 : tzero Tryz.prog 86 = some (Value.slice none 0 0) := by kernel_rfl
attribute [go_sem] tab_zero_86
theorem tab_zero_88 : tzero Tryz.prog 88 = some Value.nilFunc := by kernel_rfl
attribute [go_sem] tab_zero_88
theorem tab_zero_89 : tzero Tryz.prog 89 = some Value.nilFunc := by kernel_rfl
attribute [go_sem] tab_zero_89
theorem tab_zero_90 : tzero Tryz.prog 90 = some (Value.slice none 0 0) := by kernel_rfl
attribute [go_sem] tab_zero_90
theorem tab_zero_91 : tzero Tryz.prog 91 = some (Value.agg #[Value.slice none 0 0]) := by kernel_rfl
attribute [go_sem] tab_zero_91
theorem tab_zero_92 : tzero Tryz.prog 92 = some (Value.agg #[Value.slice none 0 0]) := by kernel_rfl
attribute [go_sem] tab_zero_92
theorem tab_zero_93 : tzero Tryz.prog 93 = some Value.nilFunc := by kernel_rfl
attribute [go_sem] tab_zero_93
theorem tab_zero_94 : tzero Tryz.prog 94 = some Value.nilFunc := by kernel_rfl
attribute [go_sem] tab_zero_94
theorem tab_zero_96 : tzero Tryz.prog 96 = some Value.nilFunc := by kernel_rfl
attribute [go_sem] tab_zero_96
theorem tab_zero_98 : tzero Tryz.prog 98 = some Value.nilFunc := by kernel_rfl
attribute [go_sem] tab_zero_98
theorem tab_zero_99 : tzero Tryz.prog 99 = some Value.nilFunc := by kernel_rfl
attribute [go_sem] tab_zero_99
theorem tab_zero_100 : tzero Tryz.prog 100 = some (Value.pointer none) := by kernel_rfl
attribute [go_sem] tab_zero_100
theorem tab_zero_102 : tzero Tryz.prog 102 = some Value.nilFunc := by kernel_rfl
attribute [go_sem] tab_zero_102
theorem tab_zero_104 : tzero Tryz.prog 104 = some Value.nilFunc := by kernel_rfl
attribute [go_sem] tab_zero_104
theorem tab_zero_105 : tzero Tryz.prog 105 = some Value.nilFunc := by kernel_rfl
attribute [go_sem] tab_zero_105
theorem tab_zero_106 : tzero Tryz.prog 106 = some (Value.slice none 0 0) := by kernel_rfl
attribute [go_sem] tab_zero_106
theorem tab_zero_108 : tzero Tryz.prog 108 = some Value.nilFunc := by kernel_rfl
attribute [go_sem] tab_zero_108
theorem tab_zero_109 : tzero Tryz.prog 109 = some Value.nilFunc := by kernel_rfl
attribute [go_sem] tab_zero_109
theorem tab_zero_110 : tzero Tryz.prog 110 = some Value.nilFunc := by kernel_rfl
attribute [go_sem] tab_zero_110
theorem tab_zero_111 : tzero Tryz.prog 111 = some (Value.pointer none) := by kernel_rfl
attribute [go_sem] tab_zero_111
theorem tab_zero_112 : tzero Tryz.prog 112 = some (Value.agg #[Value.pointer none, Value.slice none 0 0]) := by kernel_rfl
attribute [go_sem] tab_zero_112
theorem tab_zero_113 : tzero Tryz.prog 113 = some (Value.agg #[Value.pointer none, Value.slice none 0 0]) := by kernel_rfl
attribute [go_sem] tab_zero_113
theorem tab_zero_114 : tzero Tryz.prog 114 = some (Value.pointer none) := by kernel_rfl
attribute [go_sem] tab_zero_114
theorem tab_zero_115 : tzero Tryz.prog 115 = some Value.nilFunc := by kernel_rfl
attribute [go_sem] tab_zero_115
theorem tab_zero_116 : tzero Tryz.prog 116 = some Value.nilFunc := by kernel_rfl
attribute [go_sem] tab_zero_116
theorem tab_zero_117 : tzero Tryz.prog 117 = some Value.nilFunc := by kernel_rfl
attribute [go_sem] tab_zero_117
theorem tab_zero_118 : tzero Tryz.prog 118 = some Value.nilFunc := by kernel_rfl
attribute [go_sem] tab_zero_118
theorem tab_zero_119 : tzero Tryz.prog 119 = some Value.nilFunc := by kernel_rfl
attribute [go_sem] tab_zero_119
theorem tab_zero_120 : tzero Tryz.prog 120 = some Value.nilFunc := by kernel_rfl
attribute [go_sem] tab_zero_120
theorem tab_zero_121 : tzero Tryz.prog 121 = some Value.nilFunc := by kernel_rfl
attribute [go_sem] tab_zero_121
theorem tab_zero_122 : tzero Tryz.prog 122 = some Value.nilFunc := by kernel_rfl
attribute [go_sem] tab_zero_122
theorem tab_zero_123 : tzero Tryz.prog 123 = some (Value.agg #[Value.int IntKind.i64 0, Value.int IntKind.i64 0, Value.int IntKind.i64 0, Value.int IntKind.i64 0]) := by kernel_rfl
attribute [go_sem] tab_zero_123
theorem tab_zero_124 : tzero Tryz.prog 124 = some (Value.agg #[Value.int IntKind.i64 0, Value.int IntKind.i64 0, Value.int IntKind.i64 0, Value.int IntKind.i64 0]) := by kernel_rfl
attribute [go_sem] tab_zero_124
theorem tab_zero_126 : tzero Tryz.prog 126 = some Value.nilFunc := by kernel_rfl
attribute [go_sem] tab_zero_126
theorem tab_zero_127 : tzero Tryz.prog 127 = some Value.nilFunc := by kernel_rfl
attribute [go_sem] tab_zero_127
theorem tab_zero_128 : tzero Tryz.prog 128 = some (Value.agg #[Value.int IntKind.i64 0, Value.bool false]) := by kernel_rfl
attribute [go_sem] tab_zero_128
theorem tab_zero_129 : tzero Tryz.prog 129 = some (Value.agg #[Value.int IntKind.i64 0, Value.bool false]) := by kernel_rfl
attribute [go_sem] tab_zero_129
theorem tab_zero_130 : tzero Tryz.prog 130 = some Value.nilFunc := by kernel_rfl
attribute [go_sem] tab_zero_130
theorem tab_zero_131 : tzero Tryz.prog 131 = some Value.nilFunc := by kernel_rfl
attribute [go_sem] tab_zero_131
theorem tab_zero_132 : tzero Tryz.prog 132 = some (Value.agg #[Value.int IntKind.i64 0, Value.int IntKind.i64 0, Value.int IntKind.i64 0, Value.int IntKind.i64 0, Value.int IntKind.i64 0, Value.int IntKind.i64 0]) := by kernel_rfl
attribute [go_sem] tab_zero_132
theorem tab_zero_133 : tzero Tryz.prog 133 = some (Value.agg #[Value.int IntKind.i64 0, Value.int IntKind.i64 0, Value.int IntKind.i64 0, Value.int IntKind.i64 0, Value.int IntKind.i64 0, Value.int IntKind.i64 0]) := by kernel_rfl
attribute [go_sem] tab_zero_133
theorem tab_zero_134 : tzero Tryz.prog 134 = some Value.nilFunc := by kernel_rfl
attribute [go_sem] tab_zero_134
theorem tab_zero_135 : tzero Tryz.prog 135 = some Value.nilFunc := by kernel_rfl
attribute [go_sem] tab_zero_135
theorem tab_zero_136 : tzero Tryz.prog 136 = some Value.nilFunc := by kernel_rfl
attribute [go_sem] tab_zero_136
theorem tab_zero_137 : tzero Tryz.prog 137 = some Value.nilFunc := by kernel_rfl
attribute [go_sem] tab_zero_137
theorem tab_zero_138 : tzero Tryz.prog 138 = some (Value.slice none 0 0) := by kernel_rfl
attribute [go_sem] tab_zero_138
theorem tab_zero_139 : tzero Tryz.prog 139 = some (Value.agg #[Value.slice none 0 0, Value.slice none 0 0, Value.int IntKind.i64 0]) := by kernel_rfl
attribute [go_sem] tab_zero_139
theorem tab_zero_140 : tzero Tryz.prog 140 = some (Value.agg #[Value.slice none 0 0, Value.slice none 0 0, Value.int IntKind.i64 0]) := by kernel_rfl
attribute [go_sem] tab_zero_140
theorem tab_zero_141 : tzero Tryz.prog 141 = some Value.nilFunc := by kernel_rfl
attribute [go_sem] tab_zero_141
theorem tab_zero_142 : tzero Tryz.prog 142 = some Value.nilFunc := by kernel_rfl
attribute [go_sem] tab_zero_142
theorem tab_zero_143 : tzero Tryz.prog 143 = some Value.nilFunc := by kernel_rfl
attribute [go_sem] tab_zero_143
theorem tab_zero_144 : tzero Tryz.prog 144 = some Value.nilFunc := by kernel_rfl
attribute [go_sem] tab_zero_144
theorem tab_zero_145 : tzero Tryz.prog 145 = some (Value.agg #[Value.int IntKind.i64 0, Value.slice none 0 0, Value.int IntKind.i64 0, Value.int IntKind.i64 0, Value.int IntKind.i64 0, Value.int IntKind.i64 0]) := by kernel_rfl
attribute [go_sem] tab_zero_145
theorem tab_zero_146 : tzero Tryz.prog 146 = some (Value.agg #[Value.int IntKind.i64 0, Value.slice none 0 0, Value.int IntKind.i64 0, Value.int IntKind.i64 0, Value.int IntKind.i64 0, Value.int IntKind.i64 0]) := by kernel_rfl
attribute [go_sem] tab_zero_146
theorem tab_zero_148 : tzero Tryz.prog 148 = some Value.nilFunc := by kernel_rfl
attribute [go_sem] tab_zero_148
theorem tab_zero_149 : tzero Tryz.prog 149 = some (Value.agg #[Value.slice none 0 0, Value.slice none 0 0]) := by kernel_rfl
attribute [go_sem] tab_zero_149
theorem tab_zero_150 : tzero Tryz.prog 150 = some (Value.agg #[Value.slice none 0 0, Value.slice none 0 0]) := by kernel_rfl
attribute [go_sem] tab_zero_150
theorem tab_zero_151 : tzero Tryz.prog 151 = some Value.nilFunc := by kernel_rfl
attribute [go_sem] tab_zero_151
theorem tab_zero_152 : tzero Tryz.prog 152 = some Value.nilFunc := by kernel_rfl
attribute [go_sem] tab_zero_152
theorem tab_zero_153 : tzero Tryz.prog 153 = some Value.nilFunc := by kernel_rfl
attribute [go_sem] tab_zero_153
theorem tab_zero_154 : tzero Tryz.prog 154 = some Value.nilFunc := by kernel_rfl
attribute [go_sem] tab_zero_154
theorem tab_zero_155 : tzero Tryz.prog 155 = some Value.nilFunc := by kernel_rfl
attribute [go_sem] tab_zero_155
theorem tab_zero_156 : tzero Tryz.prog 156 = some Value.nilFunc := by kernel_rfl
attribute [go_sem] tab_zero_156
theorem tab_zero_157 : tzero Tryz.prog 157 = some Value.nilFunc := by kernel_rfl
attribute [go_sem] tab_zero_157
theorem tab_zero_158 : tzero Tryz.prog 158 = some Value.nilFunc := by kernel_rfl
attribute [go_sem] tab_zero_158
theorem tab_zero_160 : tzero Tryz.prog 160 = some Value.nilFunc := by kernel_rfl
attribute [go_sem] tab_zero_160
theorem tab_zero_161 : tzero Tryz.prog 161 = some Value.nilFunc := by kernel_rfl
attribute [go_sem] tab_zero_161
theorem tab_zero_162 : tzero Tryz.prog 162 = some Value.nilFunc := by kernel_rfl
attribute [go_sem] tab_zero_162
theorem tab_zero_163 : tzero Tryz.prog 163 = some Value.nilFunc := by kernel_rfl
attribute [go_sem] tab_zero_163
theorem tab_zero_164 : tzero Tryz.prog 164 = some Value.nilFunc := by kernel_rfl
attribute [go_sem] tab_zero_164
theorem tab_zero_165 : tzero Tryz.prog 165 = some Value.nilFunc := by kernel_rfl
attribute [go_sem] tab_zero_165
theorem tab_zero_166 : tzero Tryz.prog 166 = some Value.nilFunc := by kernel_rfl
attribute [go_sem] tab_zero_166
theorem tab_zero_167 : tzero Tryz.prog 167 = some Value.nilFunc := by kernel_rfl
attribute [go_sem] tab_zero_167
theorem tab_zero_168 : tzero Tryz.prog 168 = some Value.nilFunc := by kernel_rfl
attribute [go_sem] tab_zero_168
theorem tab_zero_169 : tzero Tryz.prog 169 = some Value.nilFunc := by kernel_rfl
attribute [go_sem] tab_zero_169
theorem tab_zero_170 : tzero Tryz.prog 170 = some Value.nilFunc := by kernel_rfl
attribute [go_sem] tab_zero_170
theorem tab_zero_171 : tzero Tryz.prog 171 = some Value.nilFunc := by kernel_rfl
attribute [go_sem] tab_zero_171
theorem tab_zero_172 : tzero Tryz.prog 172 = some Value.nilFunc := by kernel_rfl
attribute [go_sem] tab_zero_172
theorem tab_zero_173 : tzero Tryz.prog 173 = some Value.nilFunc := by kernel_rfl
attribute [go_sem] tab_zero_173
theorem tab_zero_174 : tzero Tryz.prog 174 = some Value.nilFunc := by kernel_rfl
attribute [go_sem] tab_zero_174
theorem tab_zero_175 : tzero Tryz.prog 175 = some Value.nilFunc := by kernel_rfl
attribute [go_sem] tab_zero_175
theorem tab_zero_176 : tzero Tryz.prog 176 = some Value.nilFunc := by kernel_rfl
attribute [go_sem] tab_zero_176
theorem tab_zero_177 : tzero Tryz.prog 177 = some Value.nilFunc := by kernel_rfl
attribute [go_sem] tab_zero_177
theorem tab_zero_178 : tzero Tryz.prog 178 = some Value.nilFunc := by kernel_rfl
attribute [go_sem] tab_zero_178
theorem tab_zero_179 : tzero Tryz.prog 179 = some Value.nilFunc := by kernel_rfl
attribute [go_sem] tab_zero_179
theorem tab_zero_180 : tzero Tryz.prog 180 = some Value.nilFunc := by kernel_rfl
attribute [go_sem] tab_zero_180
theorem tab_zero_181 : tzero Tryz.prog 181 = some Value.nilFunc := by kernel_rfl
attribute [go_sem] tab_zero_181
theorem tab_zero_182 : tzero Tryz.prog 182 = some Value.nilFunc := by kernel_rfl
attribute [go_sem] tab_zero_182
theorem tab_zero_183 : tzero Tryz.prog 183 = some Value.nilFunc := by kernel_rfl
attribute [go_sem] tab_zero_183
theorem tab_zero_184 : tzero Tryz.prog 184 = some Value.nilFunc := by kernel_rfl
attribute [go_sem] tab_zero_184
theorem tab_zero_185 : tzero Tryz.prog 185 = some Value.nilFunc := by kernel_rfl
attribute [go_sem] tab_zero_185
theorem tab_zero_186 : tzero Tryz.prog 186 = some Value.nilFunc := by kernel_rfl
attribute [go_sem] tab_zero_186
theorem tab_zero_187 : tzero Tryz.prog 187 = some Value.nilFunc := by kernel_rfl
attribute [go_sem] tab_zero_187
theorem tab_zero_188 : tzero Tryz.prog 188 = some Value.nilFunc := by kernel_rfl
attribute [go_sem] tab_zero_188
theorem tab_zero_189 : tzero Tryz.prog 189 = some Value.nilFunc := by kernel_rfl
attribute [go_sem] tab_zero_189
theorem tab_zero_190 : tzero Tryz.prog 190 = some Value.nilFunc := by kernel_rfl
attribute [go_sem] tab_zero_190
theorem tab_zero_192 : tzero Tryz.prog 192 = some Value.nilFunc := by kernel_rfl
attribute [go_sem] tab_zero_192
theorem tab_zero_193 : tzero Tryz.prog 193 = some Value.nilFunc := by kernel_rfl
attribute [go_sem] tab_zero_193
theorem tab_zero_195 : tzero Tryz.prog 195 = some Value.nilFunc := by kernel_rfl
attribute [go_sem] tab_zero_195
theorem tab_zero_196 : tzero Tryz.prog 196 = some Value.nilFunc := by kernel_rfl
attribute [go_sem] tab_zero_196
theorem tab_zero_197 : tzero Tryz.prog 197 = some (Value.int IntKind.u64 0) := by kernel_rfl
attribute [go_sem] tab_zero_197
theorem tab_zero_199 : tzero Tryz.prog 199 = some Value.nilFunc := by kernel_rfl
attribute [go_sem] tab_zero_199
theorem tab_zero_200 : tzero Tryz.prog 200 = some Value.nilFunc := by kernel_rfl
attribute [go_sem] tab_zero_200
theorem tab_zero_201 : tzero Tryz.prog 201 = some Value.nilFunc := by kernel_rfl
attribute [go_sem] tab_zero_201
theorem tab_zero_202 : tzero Tryz.prog 202 = some Value.nilFunc := by kernel_rfl
attribute [go_sem] tab_zero_202
theorem tab_zero_203 : tzero Tryz.prog 203 = some Value.nilFunc := by kernel_rfl
attribute [go_sem] tab_zero_203
theorem tab_zero_204 : tzero Tryz.prog 204 = some Value.nilFunc := by kernel_rfl
attribute [go_sem] tab_zero_204
theorem tab_zero_205 : tzero Tryz.prog 205 = some Value.nilFunc := by kernel_rfl
attribute [go_sem] tab_zero_205
theorem tab_zero_206 : tzero Tryz.prog 206 = some (Value.int IntKind.u32 0) := by kernel_rfl
attribute [go_sem] tab_zero_206
theorem tab_zero_208 : tzero Tryz.prog 208 = some Value.nilFunc := by kernel_rfl
attribute [go_sem] tab_zero_208
theorem tab_zero_209 : tzero Tryz.prog 209 = some (Value.int IntKind.u64 0) := by kernel_rfl
attribute [go_sem] tab_zero_209
theorem tab_zero_211 : tzero Tryz.prog 211 = some Value.nilFunc := by kernel_rfl
attribute [go_sem] tab_zero_211
theorem tab_zero_212 : tzero Tryz.prog 212 = some Value.nilFunc := by kernel_rfl
attribute [go_sem] tab_zero_212
theorem tab_zero_213 : tzero Tryz.prog 213 = some Value.nilFunc := by kernel_rfl
attribute [go_sem] tab_zero_213
theorem tab_zero_214 : tzero Tryz.prog 214 = some Value.nilFunc := by kernel_rfl
attribute [go_sem] tab_zero_214
theorem tab_zero_217 : tzero Tryz.prog 217 = some (Value.agg #[]) := by kernel_rfl
attribute [go_sem] tab_zero_217
theorem tab_zero_218 : tzero Tryz.prog 218 = some (Value.agg #[]) := by kernel_rfl
attribute [go_sem] tab_zero_218
theorem tab_zero_219 : tzero Tryz.prog 219 = some (Value.agg #[]) := by kernel_rfl
attribute [go_sem] tab_zero_219
theorem tab_zero_220 : tzero Tryz.prog 220 = some Value.nilFunc := by kernel_rfl
attribute [go_sem] tab_zero_220
theorem tab_zero_221 : tzero Tryz.prog 221 = some (Value.int IntKind.u8 0) := by kernel_rfl
attribute [go_sem] tab_zero_221
theorem tab_zero_222 : tzero Tryz.prog 222 = some (Value.int IntKind.u8 0) := by kernel_rfl
attribute [go_sem] tab_zero_222
theorem tab_zero_223 : tzero Tryz.prog 223 = some Value.nilFunc := by kernel_rfl
attribute [go_sem] tab_zero_223
theorem tab_zero_224 : tzero Tryz.prog 224 = some (Value.pointer none) := by kernel_rfl
attribute [go_sem] tab_zero_224
theorem tab_zero_225 : tzero Tryz.prog 225 = some (Value.int IntKind.i32 0) := by kernel_rfl
attribute [go_sem] tab_zero_225
theorem tab_zero_226 : tzero Tryz.prog 226 = some (Value.int IntKind.i32 0) := by kernel_rfl
attribute [go_sem] tab_zero_226
theorem tab_zero_227 : tzero Tryz.prog 227 = some (Value.agg #[Value.int IntKind.u64 0, Value.int IntKind.u64 0, Value.int IntKind.u32 0, Value.int IntKind.u8 0, Value.int IntKind.u8 0, Value.int IntKind.u8 0, Value.int IntKind.u8 0, Value.nilFunc, Value.pointer none, Value.int IntKind.i32 0, Value.int IntKind.i32 0]) := by kernel_rfl
attribute [go_sem] tab_zero_227
theorem tab_zero_228 : tzero Tryz.prog 228 = some (Value.agg #[Value.int IntKind.u64 0, Value.int IntKind.u64 0, Value.int IntKind.u32 0, Value.int IntKind.u8 0, Value.int IntKind.u8 0, Value.int IntKind.u8 0, Value.int IntKind.u8 0, Value.nilFunc, Value.pointer none, Value.int IntKind.i32 0, Value.int IntKind.i32 0]) := by kernel_rfl
attribute [go_sem] tab_zero_228
theorem tab_zero_229 : tzero Tryz.prog 229 = some (Value.pointer none) := by kernel_rfl
attribute [go_sem] tab_zero_229
attribute [go_sem] Tryz.underlying2
attribute [go_sem] Tryz.underlying3
attribute [go_sem] Tryz.underlying4
attribute [go_sem] Tryz.underlying5
attribute [go_sem] Tryz.underlying6
attribute [go_sem] Tryz.underlying12
attribute [go_sem] Tryz.underlying15
attribute [go_sem] Tryz.underlying16
attribute [go_sem] Tryz.underlying17
attribute [go_sem] Tryz.underlying21
attribute [go_sem] Tryz.underlying38
attribute [go_sem] Tryz.underlying100
attribute [go_sem] Tryz.underlying111
attribute [go_sem] Tryz.underlying114
attribute [go_sem] Tryz.underlying197
attribute [go_sem] Tryz.underlying206
attribute [go_sem] Tryz.underlying209
attribute [go_sem] Tryz.underlying221
attribute [go_sem] Tryz.underlying222
attribute [go_sem] Tryz.underlying224
attribute [go_sem] Tryz.underlying225
attribute [go_sem] Tryz.underlying226
end Go.Ab
namespace Go.Ab
open Go.RowKit Go.Proofs
structure Span where
  lo : Int
  hi : Int
structure Hour where
  wind : Span
  rain : Span
  temp : Span
structure Sky where
  wind : Int
  rain : Int
  temp : Int
structure Sight where
  hour : Int
  sky : Sky
def Span.row (s : Span) : List DV := [.i s.lo, .i s.hi]
def Hour.row (h : Hour) : List DV := [.i h.wind.lo, .i h.wind.hi, .i h.rain.lo, .i h.rain.hi, .i h.temp.lo, .i h.temp.hi]
def Sky.row (s : Sky) : List DV := [.i s.wind, .i s.rain, .i s.temp]
def Sight.row (s : Sight) : List DV := [.i s.hour, .i s.sky.wind, .i s.sky.rain, .i s.sky.temp]
def hourRows (l : List Hour) : List (List DV) := l.map Hour.row
def scenRows (l : List (List Hour)) : List (List DV) := l.map fun h => [.sl (hourRows h)]
def intRows (l : List Int) : List (List DV) := l.map fun x => [.i x]
def sightRows (l : List Sight) : List (List DV) := l.map Sight.row
def skyRows (l : List Sky) : List (List DV) := l.map Sky.row
theorem hourRows_len (l : List Hour) : (hourRows l).length = l.length := by simp [hourRows]
theorem scenRows_len (l : List (List Hour)) : (scenRows l).length = l.length := by simp [scenRows]
theorem intRows_len (l : List Int) : (intRows l).length = l.length := by simp [intRows]
theorem sightRows_len (l : List Sight) : (sightRows l).length = l.length := by simp [sightRows]
theorem skyRows_len (l : List Sky) : (skyRows l).length = l.length := by simp [skyRows]
theorem hourRows_at {l : List Hour} {i : Nat} {x : Hour} (h : l[i]? = some x) : (hourRows l)[i]? = some x.row := by simp [hourRows, h]
theorem scenRows_at {l : List (List Hour)} {i : Nat} {x : List Hour} (h : l[i]? = some x) : (scenRows l)[i]? = some [.sl (hourRows x)] := by simp [scenRows, h]
theorem intRows_at {l : List Int} {i : Nat} {x : Int} (h : l[i]? = some x) : (intRows l)[i]? = some [.i x] := by simp [intRows, h]
theorem sightRows_at {l : List Sight} {i : Nat} {x : Sight} (h : l[i]? = some x) : (sightRows l)[i]? = some x.row := by simp [sightRows, h]
theorem hourRows_head (l : List Hour) : headIs 6 (hourRows l) = true := by cases l <;> rfl
theorem scenRows_head (l : List (List Hour)) : headIs 1 (scenRows l) = true := by cases l <;> rfl
theorem intRows_head (l : List Int) : headIs 1 (intRows l) = true := by cases l <;> rfl
theorem sightRows_head (l : List Sight) : headIs 4 (sightRows l) = true := by cases l <;> rfl
theorem skyRows_head (l : List Sky) : headIs 3 (skyRows l) = true := by cases l <;> rfl
attribute [go_sem] hourRows_len scenRows_len intRows_len sightRows_len skyRows_len hourRows_head scenRows_head intRows_head sightRows_head skyRows_head
theorem rowsFlat_map {α : Type} {f : α → List DV} (h : ∀ x, ∀ d ∈ f x, d.flat = true) (l : List α) : rowsFlat (l.map f) := by
  intro r hr d hd
  obtain ⟨x, _, rfl⟩ := List.mem_map.1 hr
  exact h x d hd
theorem rowsFlat_int (l : List Int) : rowsFlat (intRows l) := rowsFlat_map (by intro x d hd; simp at hd; subst hd; rfl) l
theorem rowsFlat_hour (l : List Hour) : rowsFlat (hourRows l) := rowsFlat_map (by intro x d hd; simp [Hour.row] at hd; rcases hd with rfl | rfl | rfl | rfl | rfl | rfl <;> rfl) l
theorem rowsFlat_sight (l : List Sight) : rowsFlat (sightRows l) := rowsFlat_map (by intro x d hd; simp [Sight.row] at hd; rcases hd with rfl | rfl | rfl | rfl <;> rfl) l
theorem rowsFlat_sky (l : List Sky) : rowsFlat (skyRows l) := rowsFlat_map (by intro x d hd; simp [Sky.row] at hd; rcases hd with rfl | rfl | rfl <;> rfl) l
abbrev wr (x : Int) : Int := IntKind.i64.wrap x
theorem wr_small {x : Int} (h : -(2 ^ 63) ≤ x ∧ x < 2 ^ 63) : IntKind.i64.wrap x = x := by
  rw [IntKind.wrap_i64]; omega
theorem foldl_take_succ {α β : Type} (f : β → α → β) (b : β) (l : List α) (i : Nat) (x : α) (h : l[i]? = some x) : (l.take (i + 1)).foldl f b = f ((l.take i).foldl f b) x := by
  rw [List.take_add_one, h]; simp
theorem drop_get {α : Type} {l : List α} {i : Nat} {x : α} (h : l[i]? = some x) : l.drop i = x :: l.drop (i + 1) := by
  obtain ⟨hlt, rfl⟩ := List.getElem?_eq_some_iff.1 h
  exact List.drop_eq_getElem_cons hlt
def idxFrom {α : Type} (q : α → Bool) : List α → Nat → Int
  | [], _ => -1
  | x :: xs, i => if q x then (i : Int) else idxFrom q xs (i + 1)
theorem idxFrom_nonneg {α : Type} (q : α → Bool) : ∀ (l : List α) (i : Nat), decide (idxFrom q l i ≥ 0) = l.any q
  | [], i => by simp [idxFrom]
  | x :: xs, i => by
    simp only [idxFrom, List.any_cons]
    by_cases h : q x
    · simp [h]
    · simp [h, ← idxFrom_nonneg q xs (i + 1)]
theorem any_not {α : Type} (l : List α) (q : α → Bool) : (!(l.any fun s => !q s)) = l.all q := by
  induction l with
  | nil => rfl
  | cons x xs ih => simp only [List.any_cons, List.all_cons, ← ih]; cases q x <;> simp
theorem any_of_get {α : Type} {l : List α} {q : α → Bool} {i : Nat} {x : α} (h : l[i]? = some x) (hq : q x = true) : l.any q = true :=
  List.any_eq_true.2 ⟨x, List.mem_of_getElem? h, hq⟩
theorem any_take_succ {α : Type} {l : List α} {q : α → Bool} {i : Nat} {x : α} (h : l[i]? = some x) (h0 : (l.take i).any q = false) (hq : q x = false) : (l.take (i + 1)).any q = false := by
  rw [List.take_add_one, h]; simp [h0, hq]
theorem all_take_succ {α : Type} {l : List α} {q : α → Bool} {i : Nat} {x : α} (h : l[i]? = some x) (h0 : (l.take i).all q = true) (hq : q x = true) : (l.take (i + 1)).all q = true := by
  rw [List.take_add_one, h]; simp [h0, hq]
theorem all_of_get {α : Type} {l : List α} {q : α → Bool} {i : Nat} {x : α} (h : l[i]? = some x) (hq : q x = false) : l.all q = false := by
  cases hc : l.all q with
  | false => rfl
  | true => rw [List.all_eq_true] at hc; have := hc x (List.mem_of_getElem? h); rw [hq] at this; cases this
theorem reify_caps (m : List (Option Blk)) (x : AV) (d : DV) (caps : List DV) (h : reify m deep x = some d) : allSome ((x :: caps.map AV.d).map (reify m deep)) = some (d :: caps) := by
  have : ∀ l : List DV, allSome ((l.map AV.d).map (reify m deep)) = some l := by
    intro l
    induction l with
    | nil => rfl
    | cons a l ih =>
      simp only [List.map_cons]
      rw [show reify m deep (AV.d a) = some a from rfl]
      simp only [allSome, ih, Option.map_some]
  simp only [List.map_cons, h, allSome]
  rw [this caps]
  rfl
def getI (l : List Int) (i : Int) : Int := l.getD i.toNat 0
end Go.Ab
namespace Go.Ab
open Go.RowKit Go.Proofs
set_option maxHeartbeats 4000000
set_option maxRecDepth 20000
attribute [local irreducible] WalkL Walk
def withinB (n lo hi : Int) : Bool := decide (lo ≤ n) && decide (n ≤ hi)
def orderedB (s : Span) (lo hi : Int) : Bool := decide (lo ≤ s.lo) && (decide (s.lo ≤ s.hi) && decide (s.hi ≤ hi))
theorem within_iff {x lo hi : Int} : withinB x lo hi = true ↔ lo ≤ x ∧ x ≤ hi := by simp [withinB]
theorem ordered_iff {s : Span} {lo hi : Int} : orderedB s lo hi = true ↔ lo ≤ s.lo ∧ s.lo ≤ s.hi ∧ s.hi ≤ hi := by simp [orderedB]
theorem f87 (n lo hi : Int) : Fn Tryz.prog 87 [.i n, .i lo, .i hi] (.bool (withinB n lo hi)) := by
  refine fn_walk 15 Tryz.call87 Tryz.func87 rfl (by decide) fun J => ?_
  simp (maxSteps := 4000000) only [go_sem, St.start, Tryz.ntmps87, Tryz.results87]
  by_cases h : lo ≤ n
  · repeat (first | refine walkL_seq ?_ | refine walkL_skip ?_ | refine walkL_block ?_ | (refine walkL_region fun K hK => ?_; simp (maxSteps := 4000000) only [go_sem, h]; refine hK _ ?_; clear hK K) | refine walkL_nil ?_ | refine walkL_ret ?_ | refine walkL_exit ?_ | refine blockA_here ?_ | refine blockA_other rfl ?_ | refine blockA_ret ?_ | refine blockA_normal ?_ | refine thenA_ret ?_ | refine thenA_exit ?_ | refine thenA_normal ?_)
    simp (maxSteps := 4000000) only [go_sem, withinB, h]
  · repeat (first | refine walkL_seq ?_ | refine walkL_skip ?_ | refine walkL_block ?_ | (refine walkL_region fun K hK => ?_; simp (maxSteps := 4000000) only [go_sem, h]; refine hK _ ?_; clear hK K) | refine walkL_nil ?_ | refine walkL_ret ?_ | refine walkL_exit ?_ | refine blockA_here ?_ | refine blockA_other rfl ?_ | refine blockA_ret ?_ | refine blockA_normal ?_ | refine thenA_ret ?_ | refine thenA_exit ?_ | refine thenA_normal ?_)
    simp (maxSteps := 4000000) only [go_sem, withinB, h]
theorem f138 (s : Span) (lo hi : Int) : Fn Tryz.prog 138 [.agg s.row, .i lo, .i hi] (.bool (orderedB s lo hi)) := by
  refine fn_walk 24 Tryz.call138 Tryz.func138 rfl (by decide) fun J => ?_
  simp (maxSteps := 4000000) only [go_sem, St.start, Tryz.ntmps138, Tryz.results138, Span.row]
  by_cases h : lo ≤ s.lo <;> by_cases h2 : s.lo ≤ s.hi
  all_goals
    repeat (first | refine walkL_seq ?_ | refine walkL_skip ?_ | refine walkL_block ?_ | (refine walkL_region fun K hK => ?_; simp (maxSteps := 4000000) only [go_sem, h, h2]; refine hK _ ?_; clear hK K) | refine walkL_nil ?_ | refine walkL_ret ?_ | refine walkL_exit ?_ | refine blockA_here ?_ | refine blockA_other rfl ?_ | refine blockA_ret ?_ | refine blockA_normal ?_ | refine thenA_ret ?_ | refine thenA_exit ?_ | refine thenA_normal ?_)
    simp (maxSteps := 4000000) only [go_sem, orderedB, h, h2]
def hourB (h : Hour) : Bool := orderedB h.wind 0 200 && (orderedB h.rain 0 100 && orderedB h.temp (-50) 50)
theorem f131 (h : Hour) : Fn Tryz.prog 131 [.agg h.row] (.bool (hourB h)) := by
  have h1 := f138 h.wind 0 200
  have h2 := f138 h.rain 0 100
  have h3 := f138 h.temp (-50) 50
  rw [Span.row] at h1 h2 h3
  obtain ⟨b1, e1⟩ : ∃ b, b = orderedB h.wind 0 200 := ⟨_, rfl⟩
  obtain ⟨b2, e2⟩ : ∃ b, b = orderedB h.rain 0 100 := ⟨_, rfl⟩
  obtain ⟨b3, e3⟩ : ∃ b, b = orderedB h.temp (-50) 50 := ⟨_, rfl⟩
  rw [hourB, ← e1, ← e2, ← e3]
  rw [← e1] at h1
  rw [← e2] at h2
  rw [← e3] at h3
  refine fn_walk 16 Tryz.call131 Tryz.func131 rfl (by decide) fun J => ?_
  simp (maxSteps := 4000000) only [go_sem, St.start, Tryz.ntmps131, Tryz.results131, Hour.row]
  cases b1 <;> cases b2
  all_goals
    repeat (first | refine walkL_seq ?_ | refine walkL_skip ?_ | refine walkL_block ?_ | (refine walkL_region fun K hK => ?_; simp (maxSteps := 4000000) only [go_sem]; (repeat (first | (refine ⟨_, .lent (hf := h1) (hd := rfl) (hr := rfl), ?_⟩; simp (maxSteps := 4000000) only [go_sem]) | (refine ⟨_, .lent (hf := h2) (hd := rfl) (hr := rfl), ?_⟩; simp (maxSteps := 4000000) only [go_sem]) | (refine ⟨_, .lent (hf := h3) (hd := rfl) (hr := rfl), ?_⟩; simp (maxSteps := 4000000) only [go_sem]) | (refine ⟨_, .given (hf := h1) (hd := rfl) (ha := rfl), ?_⟩; simp (maxSteps := 4000000) only [go_sem]) | (refine ⟨_, .given (hf := h2) (hd := rfl) (ha := rfl), ?_⟩; simp (maxSteps := 4000000) only [go_sem]) | (refine ⟨_, .given (hf := h3) (hd := rfl) (ha := rfl), ?_⟩; simp (maxSteps := 4000000) only [go_sem]))); refine hK _ ?_; clear hK K) | refine walkL_nil ?_ | refine walkL_ret ?_ | refine walkL_exit ?_ | refine blockA_here ?_ | refine blockA_other rfl ?_ | refine blockA_ret ?_ | refine blockA_normal ?_ | refine thenA_ret ?_ | refine thenA_exit ?_ | refine thenA_normal ?_)
    simp (maxSteps := 4000000) only [go_sem]
theorem f145 (n : Int) : Fn Tryz.prog 145 [.i n] (.agg [.i n, .i n]) := by
  refine fn_walk 6 Tryz.call145 Tryz.func145 rfl (by decide) fun J => ?_
  simp (maxSteps := 4000000) only [go_sem, St.start, Tryz.ntmps145, Tryz.results145]
  repeat (first | refine walkL_seq ?_ | refine walkL_skip ?_ | refine walkL_block ?_ | (refine walkL_region fun K hK => ?_; simp (maxSteps := 4000000) only [go_sem]; refine hK _ ?_; clear hK K) | refine walkL_nil ?_ | refine walkL_ret ?_ | refine walkL_exit ?_ | refine blockA_here ?_ | refine blockA_other rfl ?_ | refine blockA_ret ?_ | refine blockA_normal ?_ | refine thenA_ret ?_ | refine thenA_exit ?_ | refine thenA_normal ?_)
  simp (maxSteps := 4000000) only [go_sem]
def pointH (s : Sky) : Hour := ⟨⟨s.wind, s.wind⟩, ⟨s.rain, s.rain⟩, ⟨s.temp, s.temp⟩⟩
theorem f110 (s : Sky) : Fn Tryz.prog 110 [.agg s.row] (.agg (pointH s).row) := by
  refine fn_walk 17 Tryz.call110 Tryz.func110 rfl (by decide) fun J => ?_
  simp (maxSteps := 4000000) only [go_sem, St.start, Tryz.ntmps110, Tryz.results110, Sky.row]
  repeat (first | refine walkL_seq ?_ | refine walkL_skip ?_ | refine walkL_block ?_ | (refine walkL_region fun K hK => ?_; simp (maxSteps := 4000000) only [go_sem]; refine hK _ ?_; clear hK K) | refine walkL_nil ?_ | refine walkL_ret ?_ | refine walkL_exit ?_ | refine blockA_here ?_ | refine blockA_other rfl ?_ | refine blockA_ret ?_ | refine blockA_normal ?_ | refine thenA_ret ?_ | refine thenA_exit ?_ | refine thenA_normal ?_)
  refine walkL_drawn (by kernel_rfl) (by kernel_rfl) fun K hK => ?_
  simp (maxSteps := 4000000) only [go_sem]
  refine ⟨_, .fn (hf := f145 s.wind) (hd := rfl) (hr := .inl rfl), ?_⟩
  simp (maxSteps := 4000000) only [go_sem]
  refine ⟨_, .fn (hf := f145 s.rain) (hd := rfl) (hr := .inl rfl), ?_⟩
  simp (maxSteps := 4000000) only [go_sem]
  refine ⟨_, .fn (hf := f145 s.temp) (hd := rfl) (hr := .inl rfl), ?_⟩
  simp (maxSteps := 4000000) only [go_sem]
  refine ⟨by kernel_rfl, hK _ ?_⟩
  clear hK K
  repeat (first | refine walkL_seq ?_ | refine walkL_skip ?_ | refine walkL_block ?_ | (refine walkL_region fun K hK => ?_; simp (maxSteps := 4000000) only [go_sem]; refine hK _ ?_; clear hK K) | refine walkL_nil ?_ | refine walkL_ret ?_ | refine walkL_exit ?_ | refine blockA_here ?_ | refine blockA_other rfl ?_ | refine blockA_ret ?_ | refine blockA_normal ?_ | refine thenA_ret ?_ | refine thenA_exit ?_ | refine thenA_normal ?_)
  simp (maxSteps := 4000000) only [go_sem, pointH, Hour.row]
def insideB (s : Sky) (h : Hour) : Bool := withinB s.wind h.wind.lo h.wind.hi && (withinB s.rain h.rain.lo h.rain.hi && withinB s.temp h.temp.lo h.temp.hi)
theorem f109 (s : Sky) (h : Hour) : Fn Tryz.prog 109 [.agg s.row, .agg h.row] (.bool (insideB s h)) := by
  have h1 := f87 s.wind h.wind.lo h.wind.hi
  have h2 := f87 s.rain h.rain.lo h.rain.hi
  have h3 := f87 s.temp h.temp.lo h.temp.hi
  obtain ⟨b1, e1⟩ : ∃ b, b = withinB s.wind h.wind.lo h.wind.hi := ⟨_, rfl⟩
  obtain ⟨b2, e2⟩ : ∃ b, b = withinB s.rain h.rain.lo h.rain.hi := ⟨_, rfl⟩
  obtain ⟨b3, e3⟩ : ∃ b, b = withinB s.temp h.temp.lo h.temp.hi := ⟨_, rfl⟩
  rw [insideB, ← e1, ← e2, ← e3]
  rw [← e1] at h1
  rw [← e2] at h2
  rw [← e3] at h3
  refine fn_walk 36 Tryz.call109 Tryz.func109 rfl (by decide) fun J => ?_
  simp (maxSteps := 4000000) only [go_sem, St.start, Tryz.ntmps109, Tryz.results109, Hour.row, Sky.row]
  cases b1 <;> cases b2
  all_goals
    repeat (first | refine walkL_seq ?_ | refine walkL_skip ?_ | refine walkL_block ?_ | (refine walkL_region fun K hK => ?_; simp (maxSteps := 4000000) only [go_sem]; (repeat (first | (refine ⟨_, .lent (hf := h1) (hd := rfl) (hr := rfl), ?_⟩; simp (maxSteps := 4000000) only [go_sem]) | (refine ⟨_, .lent (hf := h2) (hd := rfl) (hr := rfl), ?_⟩; simp (maxSteps := 4000000) only [go_sem]) | (refine ⟨_, .lent (hf := h3) (hd := rfl) (hr := rfl), ?_⟩; simp (maxSteps := 4000000) only [go_sem]) | (refine ⟨_, .given (hf := h1) (hd := rfl) (ha := rfl), ?_⟩; simp (maxSteps := 4000000) only [go_sem]) | (refine ⟨_, .given (hf := h2) (hd := rfl) (ha := rfl), ?_⟩; simp (maxSteps := 4000000) only [go_sem]) | (refine ⟨_, .given (hf := h3) (hd := rfl) (ha := rfl), ?_⟩; simp (maxSteps := 4000000) only [go_sem]))); refine hK _ ?_; clear hK K) | refine walkL_nil ?_ | refine walkL_ret ?_ | refine walkL_exit ?_ | refine blockA_here ?_ | refine blockA_other rfl ?_ | refine blockA_ret ?_ | refine blockA_normal ?_ | refine thenA_ret ?_ | refine thenA_exit ?_ | refine thenA_normal ?_)
    simp (maxSteps := 4000000) only [go_sem]
theorem f161 (xs : List Sight) (g : Nat) (caps : List DV) (q : Sight → Bool) (hq : ∀ s ∈ xs, Fn Tryz.prog g (.agg s.row :: caps) (.bool (q s))) (hl : xs.length < 2 ^ 62) : Fn Tryz.prog 161 [.sl (sightRows xs), .fn g caps] (.i (idxFrom q xs 0)) := by
  refine fn_walk 19 Tryz.call161 Tryz.func161 rfl (by decide) fun J => ?_
  simp (maxSteps := 4000000) only [go_sem, St.start, Tryz.ntmps161, Tryz.results161]
  repeat (first | refine walkL_seq ?_ | refine walkL_skip ?_ | refine walkL_block ?_ | (refine walkL_region fun K hK => ?_; simp (maxSteps := 4000000) only [go_sem]; refine hK _ ?_; clear hK K) | refine walkL_nil ?_ | refine walkL_ret ?_ | refine walkL_exit ?_ | refine blockA_here ?_ | refine blockA_other rfl ?_ | refine blockA_ret ?_ | refine blockA_normal ?_ | refine thenA_ret ?_ | refine thenA_exit ?_ | refine thenA_normal ?_)
  refine walkL_loopS (fun (i : Nat) => [(8, .d (.i i))]) (fun _ => []) (fun i => i ≤ xs.length ∧ idxFrom q xs 0 = idxFrom q (xs.drop i) i) (fun i => xs.length - i) 0 ?_ ⟨Nat.zero_le _, rfl⟩ ?_
  · simp (maxSteps := 4000000) only [go_sem]
    refine weak_of [] ?_ ?_ rfl rfl <;> simp [lessT, lessM, lessB, AV.less]
  · intro i ⟨hi, hq0⟩
    simp (maxSteps := 4000000) only [go_sem]
    repeat (first | refine walkL_seq ?_ | refine walkL_skip ?_ | refine walkL_block ?_ | (refine walkL_region fun K hK => ?_; simp (maxSteps := 4000000) only [go_sem]; refine hK _ ?_; clear hK K) | refine walkL_nil ?_ | refine walkL_ret ?_ | refine walkL_exit ?_ | refine blockA_here ?_ | refine blockA_other rfl ?_ | refine blockA_ret ?_ | refine blockA_normal ?_ | refine thenA_ret ?_ | refine thenA_exit ?_ | refine thenA_normal ?_)
    refine walkL_cond rfl (fun hb => ?_) (fun hb => ?_)
    · have hlt : i < xs.length := by simpa using hb
      have hw : IntKind.i64.wrap ((i : Int) + 1) = ((i + 1 : Nat) : Int) := by rw [wr_small (by omega)]; simp
      obtain ⟨s, hs⟩ : ∃ s, xs[i]? = some s := ⟨_, List.getElem?_eq_getElem hlt⟩
      rw [drop_get hs, idxFrom] at hq0
      repeat (first | refine walkL_seq ?_ | refine walkL_skip ?_ | refine walkL_block ?_ | (refine walkL_region fun K hK => ?_; simp (maxSteps := 4000000) only [go_sem]; refine hK _ ?_; clear hK K) | refine walkL_nil ?_ | refine walkL_ret ?_ | refine walkL_exit ?_ | refine blockA_here ?_ | refine blockA_other rfl ?_ | refine blockA_ret ?_ | refine blockA_normal ?_ | refine thenA_ret ?_ | refine thenA_exit ?_ | refine thenA_normal ?_)
      refine walkL_region fun K hK => ?_
      simp (maxSteps := 4000000) only [go_sem, hs, List.getElem?_map, sightRows_at hs, Sight.row, hw]
      refine ⟨_, .lent (hf := hq s (List.mem_of_getElem? hs)) (hd := reify_caps _ _ _ _ rfl) (hr := rfl), ?_⟩
      simp (maxSteps := 4000000) only [go_sem]
      refine hK _ ?_
      clear hK K
      refine walkL_cond rfl (fun hc => ?_) (fun hc => ?_)
      · rw [hc, if_pos rfl] at hq0
        repeat (first | refine walkL_seq ?_ | refine walkL_skip ?_ | refine walkL_block ?_ | (refine walkL_region fun K hK => ?_; simp (maxSteps := 4000000) only [go_sem]; refine hK _ ?_; clear hK K) | refine walkL_nil ?_ | refine walkL_ret ?_ | refine walkL_exit ?_ | refine blockA_here ?_ | refine blockA_other rfl ?_ | refine blockA_ret ?_ | refine blockA_normal ?_ | refine thenA_ret ?_ | refine thenA_exit ?_ | refine thenA_normal ?_)
        simp (maxSteps := 4000000) only [go_sem, hq0]
      · rw [hc] at hq0
        repeat (first | refine walkL_seq ?_ | refine walkL_skip ?_ | refine walkL_block ?_ | (refine walkL_region fun K hK => ?_; simp (maxSteps := 4000000) only [go_sem, hw]; refine hK _ ?_; clear hK K) | refine walkL_nil ?_ | refine walkL_ret ?_ | refine walkL_exit ?_ | refine blockA_here ?_ | refine blockA_other rfl ?_ | refine blockA_ret ?_ | refine blockA_normal ?_ | refine thenA_ret ?_ | refine thenA_exit ?_ | refine thenA_normal ?_)
        refine ⟨rfl, i + 1, ?_, ⟨hlt, hq0⟩, by omega⟩
        refine weak_of [] ?_ ?_ rfl rfl <;> simp [lessT, lessM, lessB, AV.less]
    · have he : i = xs.length := by (have : ¬ i < xs.length := by simpa using hb); omega
      subst he
      repeat (first | refine walkL_seq ?_ | refine walkL_skip ?_ | refine walkL_block ?_ | (refine walkL_region fun K hK => ?_; simp (maxSteps := 4000000) only [go_sem]; refine hK _ ?_; clear hK K) | refine walkL_nil ?_ | refine walkL_ret ?_ | refine walkL_exit ?_ | refine blockA_here ?_ | refine blockA_other rfl ?_ | refine blockA_ret ?_ | refine blockA_normal ?_ | refine thenA_ret ?_ | refine thenA_exit ?_ | refine thenA_normal ?_)
      simp (maxSteps := 4000000) only [go_sem, hq0, List.drop_length, idxFrom]
theorem f143 (xs : List Sight) (g : Nat) (caps : List DV) (q : Sight → Bool) (hq : ∀ s ∈ xs, Fn Tryz.prog g (.agg s.row :: caps) (.bool (q s))) (hl : xs.length < 2 ^ 62) : Fn Tryz.prog 143 [.sl (sightRows xs), .fn g caps] (.bool (xs.any q)) := by
  refine fn_walk 9 Tryz.call143 Tryz.func143 rfl (by decide) fun J => ?_
  simp (maxSteps := 4000000) only [go_sem, St.start, Tryz.ntmps143, Tryz.results143]
  repeat (first | refine walkL_seq ?_ | refine walkL_skip ?_ | refine walkL_block ?_ | (refine walkL_region fun K hK => ?_; simp (maxSteps := 4000000) only [go_sem]; (repeat (first | (refine ⟨_, .lent (hf := f161 xs g caps q hq hl) (hd := rfl) (hr := rfl), ?_⟩; simp (maxSteps := 4000000) only [go_sem]) | (refine ⟨_, .given (hf := f161 xs g caps q hq hl) (hd := rfl) (ha := rfl), ?_⟩; simp (maxSteps := 4000000) only [go_sem]))); refine hK _ ?_; clear hK K) | refine walkL_nil ?_ | refine walkL_ret ?_ | refine walkL_exit ?_ | refine blockA_here ?_ | refine blockA_other rfl ?_ | refine blockA_ret ?_ | refine blockA_normal ?_ | refine thenA_ret ?_ | refine thenA_exit ?_ | refine thenA_normal ?_)
  simp (maxSteps := 4000000) only [go_sem, idxFrom_nonneg]
theorem f144 (s : Sight) (g : Nat) (caps : List DV) (b : Bool) (hq : Fn Tryz.prog g (.agg s.row :: caps) (.bool b)) : Fn Tryz.prog 144 [.agg s.row, .ptr [.fn g caps] 0] (.bool (!b)) := by
  refine fn_walk 8 Tryz.call144 Tryz.func144 rfl (by decide) fun J => ?_
  simp (maxSteps := 4000000) only [go_sem, St.start, Tryz.ntmps144, Tryz.results144, Sight.row]
  repeat (first | refine walkL_seq ?_ | refine walkL_skip ?_ | refine walkL_block ?_ | (refine walkL_region fun K hK => ?_; simp (maxSteps := 4000000) only [go_sem]; refine hK _ ?_; clear hK K) | refine walkL_nil ?_ | refine walkL_ret ?_ | refine walkL_exit ?_ | refine blockA_here ?_ | refine blockA_other rfl ?_ | refine blockA_ret ?_ | refine blockA_normal ?_ | refine thenA_ret ?_ | refine thenA_exit ?_ | refine thenA_normal ?_)
  refine walkL_region fun K hK => ?_
  simp (maxSteps := 4000000) only [go_sem]
  refine ⟨_, .lent (hf := hq) (hd := reify_caps _ _ _ _ rfl) (hr := rfl), ?_⟩
  simp (maxSteps := 4000000) only [go_sem]
  refine hK _ ?_
  clear hK K
  repeat (first | refine walkL_seq ?_ | refine walkL_skip ?_ | refine walkL_block ?_ | (refine walkL_region fun K hK => ?_; simp (maxSteps := 4000000) only [go_sem]; refine hK _ ?_; clear hK K) | refine walkL_nil ?_ | refine walkL_ret ?_ | refine walkL_exit ?_ | refine blockA_here ?_ | refine blockA_other rfl ?_ | refine blockA_ret ?_ | refine blockA_normal ?_ | refine thenA_ret ?_ | refine thenA_exit ?_ | refine thenA_normal ?_)
  simp (maxSteps := 4000000) only [go_sem]
theorem f107 (xs : List Sight) (g : Nat) (caps : List DV) (q : Sight → Bool) (hq : ∀ s ∈ xs, Fn Tryz.prog g (.agg s.row :: caps) (.bool (q s))) (hl : xs.length < 2 ^ 62) : Fn Tryz.prog 107 [.sl (sightRows xs), .fn g caps] (.bool (xs.all q)) := by
  have h := f143 xs 144 [.ptr [.fn g caps] 0] (fun s => !q s) (fun s hs => f144 s g caps (q s) (hq s hs)) hl
  refine fn_walk 9 Tryz.call107 Tryz.func107 rfl (by decide) fun J => ?_
  simp (maxSteps := 4000000) only [go_sem, St.start, Tryz.ntmps107, Tryz.results107]
  repeat (first | refine walkL_seq ?_ | refine walkL_skip ?_ | refine walkL_block ?_ | (refine walkL_region fun K hK => ?_; simp (maxSteps := 4000000) only [go_sem]; (repeat (first | (refine ⟨_, .lent (hf := h) (hd := rfl) (hr := rfl), ?_⟩; simp (maxSteps := 4000000) only [go_sem]) | (refine ⟨_, .given (hf := h) (hd := rfl) (ha := rfl), ?_⟩; simp (maxSteps := 4000000) only [go_sem]))); refine hK _ ?_; clear hK K) | refine walkL_nil ?_ | refine walkL_ret ?_ | refine walkL_exit ?_ | refine blockA_here ?_ | refine blockA_other rfl ?_ | refine blockA_ret ?_ | refine blockA_normal ?_ | refine thenA_ret ?_ | refine thenA_exit ?_ | refine thenA_normal ?_)
  simp (maxSteps := 4000000) only [go_sem, any_not]
theorem f164 (xs : List Hour) (g : Nat) (caps : List DV) (q : Hour → Bool) (hq : ∀ s ∈ xs, Fn Tryz.prog g (.agg s.row :: caps) (.bool (q s))) (hl : xs.length < 2 ^ 62) : Fn Tryz.prog 164 [.sl (hourRows xs), .fn g caps] (.i (idxFrom q xs 0)) := by
  refine fn_walk 19 Tryz.call164 Tryz.func164 rfl (by decide) fun J => ?_
  simp (maxSteps := 4000000) only [go_sem, St.start, Tryz.ntmps164, Tryz.results164]
  repeat (first | refine walkL_seq ?_ | refine walkL_skip ?_ | refine walkL_block ?_ | (refine walkL_region fun K hK => ?_; simp (maxSteps := 4000000) only [go_sem]; refine hK _ ?_; clear hK K) | refine walkL_nil ?_ | refine walkL_ret ?_ | refine walkL_exit ?_ | refine blockA_here ?_ | refine blockA_other rfl ?_ | refine blockA_ret ?_ | refine blockA_normal ?_ | refine thenA_ret ?_ | refine thenA_exit ?_ | refine thenA_normal ?_)
  refine walkL_loopS (fun (i : Nat) => [(8, .d (.i i))]) (fun _ => []) (fun i => i ≤ xs.length ∧ idxFrom q xs 0 = idxFrom q (xs.drop i) i) (fun i => xs.length - i) 0 ?_ ⟨Nat.zero_le _, rfl⟩ ?_
  · simp (maxSteps := 4000000) only [go_sem]
    refine weak_of [] ?_ ?_ rfl rfl <;> simp [lessT, lessM, lessB, AV.less]
  · intro i ⟨hi, hq0⟩
    simp (maxSteps := 4000000) only [go_sem]
    repeat (first | refine walkL_seq ?_ | refine walkL_skip ?_ | refine walkL_block ?_ | (refine walkL_region fun K hK => ?_; simp (maxSteps := 4000000) only [go_sem]; refine hK _ ?_; clear hK K) | refine walkL_nil ?_ | refine walkL_ret ?_ | refine walkL_exit ?_ | refine blockA_here ?_ | refine blockA_other rfl ?_ | refine blockA_ret ?_ | refine blockA_normal ?_ | refine thenA_ret ?_ | refine thenA_exit ?_ | refine thenA_normal ?_)
    refine walkL_cond rfl (fun hb => ?_) (fun hb => ?_)
    · have hlt : i < xs.length := by simpa using hb
      have hw : IntKind.i64.wrap ((i : Int) + 1) = ((i + 1 : Nat) : Int) := by rw [wr_small (by omega)]; simp
      obtain ⟨s, hs⟩ : ∃ s, xs[i]? = some s := ⟨_, List.getElem?_eq_getElem hlt⟩
      rw [drop_get hs, idxFrom] at hq0
      repeat (first | refine walkL_seq ?_ | refine walkL_skip ?_ | refine walkL_block ?_ | (refine walkL_region fun K hK => ?_; simp (maxSteps := 4000000) only [go_sem]; refine hK _ ?_; clear hK K) | refine walkL_nil ?_ | refine walkL_ret ?_ | refine walkL_exit ?_ | refine blockA_here ?_ | refine blockA_other rfl ?_ | refine blockA_ret ?_ | refine blockA_normal ?_ | refine thenA_ret ?_ | refine thenA_exit ?_ | refine thenA_normal ?_)
      refine walkL_region fun K hK => ?_
      simp (maxSteps := 4000000) only [go_sem, hs, List.getElem?_map, hourRows_at hs, Hour.row, hw]
      refine ⟨_, .lent (hf := hq s (List.mem_of_getElem? hs)) (hd := reify_caps _ _ _ _ rfl) (hr := rfl), ?_⟩
      simp (maxSteps := 4000000) only [go_sem]
      refine hK _ ?_
      clear hK K
      refine walkL_cond rfl (fun hc => ?_) (fun hc => ?_)
      · rw [hc, if_pos rfl] at hq0
        repeat (first | refine walkL_seq ?_ | refine walkL_skip ?_ | refine walkL_block ?_ | (refine walkL_region fun K hK => ?_; simp (maxSteps := 4000000) only [go_sem]; refine hK _ ?_; clear hK K) | refine walkL_nil ?_ | refine walkL_ret ?_ | refine walkL_exit ?_ | refine blockA_here ?_ | refine blockA_other rfl ?_ | refine blockA_ret ?_ | refine blockA_normal ?_ | refine thenA_ret ?_ | refine thenA_exit ?_ | refine thenA_normal ?_)
        simp (maxSteps := 4000000) only [go_sem, hq0]
      · rw [hc] at hq0
        repeat (first | refine walkL_seq ?_ | refine walkL_skip ?_ | refine walkL_block ?_ | (refine walkL_region fun K hK => ?_; simp (maxSteps := 4000000) only [go_sem, hw]; refine hK _ ?_; clear hK K) | refine walkL_nil ?_ | refine walkL_ret ?_ | refine walkL_exit ?_ | refine blockA_here ?_ | refine blockA_other rfl ?_ | refine blockA_ret ?_ | refine blockA_normal ?_ | refine thenA_ret ?_ | refine thenA_exit ?_ | refine thenA_normal ?_)
        refine ⟨rfl, i + 1, ?_, ⟨hlt, hq0⟩, by omega⟩
        refine weak_of [] ?_ ?_ rfl rfl <;> simp [lessT, lessM, lessB, AV.less]
    · have he : i = xs.length := by (have : ¬ i < xs.length := by simpa using hb); omega
      subst he
      repeat (first | refine walkL_seq ?_ | refine walkL_skip ?_ | refine walkL_block ?_ | (refine walkL_region fun K hK => ?_; simp (maxSteps := 4000000) only [go_sem]; refine hK _ ?_; clear hK K) | refine walkL_nil ?_ | refine walkL_ret ?_ | refine walkL_exit ?_ | refine blockA_here ?_ | refine blockA_other rfl ?_ | refine blockA_ret ?_ | refine blockA_normal ?_ | refine thenA_ret ?_ | refine thenA_exit ?_ | refine thenA_normal ?_)
      simp (maxSteps := 4000000) only [go_sem, hq0, List.drop_length, idxFrom]
theorem f153 (xs : List Hour) (g : Nat) (caps : List DV) (q : Hour → Bool) (hq : ∀ s ∈ xs, Fn Tryz.prog g (.agg s.row :: caps) (.bool (q s))) (hl : xs.length < 2 ^ 62) : Fn Tryz.prog 153 [.sl (hourRows xs), .fn g caps] (.bool (xs.any q)) := by
  refine fn_walk 9 Tryz.call153 Tryz.func153 rfl (by decide) fun J => ?_
  simp (maxSteps := 4000000) only [go_sem, St.start, Tryz.ntmps153, Tryz.results153]
  repeat (first | refine walkL_seq ?_ | refine walkL_skip ?_ | refine walkL_block ?_ | (refine walkL_region fun K hK => ?_; simp (maxSteps := 4000000) only [go_sem]; (repeat (first | (refine ⟨_, .lent (hf := f164 xs g caps q hq hl) (hd := rfl) (hr := rfl), ?_⟩; simp (maxSteps := 4000000) only [go_sem]) | (refine ⟨_, .given (hf := f164 xs g caps q hq hl) (hd := rfl) (ha := rfl), ?_⟩; simp (maxSteps := 4000000) only [go_sem]))); refine hK _ ?_; clear hK K) | refine walkL_nil ?_ | refine walkL_ret ?_ | refine walkL_exit ?_ | refine blockA_here ?_ | refine blockA_other rfl ?_ | refine blockA_ret ?_ | refine blockA_normal ?_ | refine thenA_ret ?_ | refine thenA_exit ?_ | refine thenA_normal ?_)
  simp (maxSteps := 4000000) only [go_sem, idxFrom_nonneg]
theorem f154 (s : Hour) (g : Nat) (caps : List DV) (b : Bool) (hq : Fn Tryz.prog g (.agg s.row :: caps) (.bool b)) : Fn Tryz.prog 154 [.agg s.row, .ptr [.fn g caps] 0] (.bool (!b)) := by
  refine fn_walk 8 Tryz.call154 Tryz.func154 rfl (by decide) fun J => ?_
  simp (maxSteps := 4000000) only [go_sem, St.start, Tryz.ntmps154, Tryz.results154, Hour.row]
  repeat (first | refine walkL_seq ?_ | refine walkL_skip ?_ | refine walkL_block ?_ | (refine walkL_region fun K hK => ?_; simp (maxSteps := 4000000) only [go_sem]; refine hK _ ?_; clear hK K) | refine walkL_nil ?_ | refine walkL_ret ?_ | refine walkL_exit ?_ | refine blockA_here ?_ | refine blockA_other rfl ?_ | refine blockA_ret ?_ | refine blockA_normal ?_ | refine thenA_ret ?_ | refine thenA_exit ?_ | refine thenA_normal ?_)
  refine walkL_region fun K hK => ?_
  simp (maxSteps := 4000000) only [go_sem]
  refine ⟨_, .lent (hf := hq) (hd := reify_caps _ _ _ _ rfl) (hr := rfl), ?_⟩
  simp (maxSteps := 4000000) only [go_sem]
  refine hK _ ?_
  clear hK K
  repeat (first | refine walkL_seq ?_ | refine walkL_skip ?_ | refine walkL_block ?_ | (refine walkL_region fun K hK => ?_; simp (maxSteps := 4000000) only [go_sem]; refine hK _ ?_; clear hK K) | refine walkL_nil ?_ | refine walkL_ret ?_ | refine walkL_exit ?_ | refine blockA_here ?_ | refine blockA_other rfl ?_ | refine blockA_ret ?_ | refine blockA_normal ?_ | refine thenA_ret ?_ | refine thenA_exit ?_ | refine thenA_normal ?_)
  simp (maxSteps := 4000000) only [go_sem]
theorem f130 (xs : List Hour) (g : Nat) (caps : List DV) (q : Hour → Bool) (hq : ∀ s ∈ xs, Fn Tryz.prog g (.agg s.row :: caps) (.bool (q s))) (hl : xs.length < 2 ^ 62) : Fn Tryz.prog 130 [.sl (hourRows xs), .fn g caps] (.bool (xs.all q)) := by
  have h := f153 xs 154 [.ptr [.fn g caps] 0] (fun s => !q s) (fun s hs => f154 s g caps (q s) (hq s hs)) hl
  refine fn_walk 9 Tryz.call130 Tryz.func130 rfl (by decide) fun J => ?_
  simp (maxSteps := 4000000) only [go_sem, St.start, Tryz.ntmps130, Tryz.results130]
  repeat (first | refine walkL_seq ?_ | refine walkL_skip ?_ | refine walkL_block ?_ | (refine walkL_region fun K hK => ?_; simp (maxSteps := 4000000) only [go_sem]; (repeat (first | (refine ⟨_, .lent (hf := h) (hd := rfl) (hr := rfl), ?_⟩; simp (maxSteps := 4000000) only [go_sem]) | (refine ⟨_, .given (hf := h) (hd := rfl) (ha := rfl), ?_⟩; simp (maxSteps := 4000000) only [go_sem]))); refine hK _ ?_; clear hK K) | refine walkL_nil ?_ | refine walkL_ret ?_ | refine walkL_exit ?_ | refine blockA_here ?_ | refine blockA_other rfl ?_ | refine blockA_ret ?_ | refine blockA_normal ?_ | refine thenA_ret ?_ | refine thenA_exit ?_ | refine thenA_normal ?_)
  simp (maxSteps := 4000000) only [go_sem, any_not]
theorem f165 (xs : List (List Hour)) (g : Nat) (caps : List DV) (q : (List Hour) → Bool) (hq : ∀ s ∈ xs, Fn Tryz.prog g (.agg [.sl (hourRows s)] :: caps) (.bool (q s))) (hl : xs.length < 2 ^ 62) : Fn Tryz.prog 165 [.sl (scenRows xs), .fn g caps] (.i (idxFrom q xs 0)) := by
  refine fn_walk 19 Tryz.call165 Tryz.func165 rfl (by decide) fun J => ?_
  simp (maxSteps := 4000000) only [go_sem, St.start, Tryz.ntmps165, Tryz.results165]
  repeat (first | refine walkL_seq ?_ | refine walkL_skip ?_ | refine walkL_block ?_ | (refine walkL_region fun K hK => ?_; simp (maxSteps := 4000000) only [go_sem]; refine hK _ ?_; clear hK K) | refine walkL_nil ?_ | refine walkL_ret ?_ | refine walkL_exit ?_ | refine blockA_here ?_ | refine blockA_other rfl ?_ | refine blockA_ret ?_ | refine blockA_normal ?_ | refine thenA_ret ?_ | refine thenA_exit ?_ | refine thenA_normal ?_)
  refine walkL_loopS (fun (i : Nat) => [(8, .d (.i i))]) (fun _ => []) (fun i => i ≤ xs.length ∧ idxFrom q xs 0 = idxFrom q (xs.drop i) i) (fun i => xs.length - i) 0 ?_ ⟨Nat.zero_le _, rfl⟩ ?_
  · simp (maxSteps := 4000000) only [go_sem]
    refine weak_of [] ?_ ?_ rfl rfl <;> simp [lessT, lessM, lessB, AV.less]
  · intro i ⟨hi, hq0⟩
    simp (maxSteps := 4000000) only [go_sem]
    repeat (first | refine walkL_seq ?_ | refine walkL_skip ?_ | refine walkL_block ?_ | (refine walkL_region fun K hK => ?_; simp (maxSteps := 4000000) only [go_sem]; refine hK _ ?_; clear hK K) | refine walkL_nil ?_ | refine walkL_ret ?_ | refine walkL_exit ?_ | refine blockA_here ?_ | refine blockA_other rfl ?_ | refine blockA_ret ?_ | refine blockA_normal ?_ | refine thenA_ret ?_ | refine thenA_exit ?_ | refine thenA_normal ?_)
    refine walkL_cond rfl (fun hb => ?_) (fun hb => ?_)
    · have hlt : i < xs.length := by simpa using hb
      have hw : IntKind.i64.wrap ((i : Int) + 1) = ((i + 1 : Nat) : Int) := by rw [wr_small (by omega)]; simp
      obtain ⟨s, hs⟩ : ∃ s, xs[i]? = some s := ⟨_, List.getElem?_eq_getElem hlt⟩
      rw [drop_get hs, idxFrom] at hq0
      repeat (first | refine walkL_seq ?_ | refine walkL_skip ?_ | refine walkL_block ?_ | (refine walkL_region fun K hK => ?_; simp (maxSteps := 4000000) only [go_sem]; refine hK _ ?_; clear hK K) | refine walkL_nil ?_ | refine walkL_ret ?_ | refine walkL_exit ?_ | refine blockA_here ?_ | refine blockA_other rfl ?_ | refine blockA_ret ?_ | refine blockA_normal ?_ | refine thenA_ret ?_ | refine thenA_exit ?_ | refine thenA_normal ?_)
      refine walkL_region fun K hK => ?_
      simp (maxSteps := 4000000) only [go_sem, hs, List.getElem?_map, scenRows_at hs, hw]
      refine ⟨_, .lent (hf := hq s (List.mem_of_getElem? hs)) (hd := reify_caps _ _ _ _ rfl) (hr := rfl), ?_⟩
      simp (maxSteps := 4000000) only [go_sem]
      refine hK _ ?_
      clear hK K
      refine walkL_cond rfl (fun hc => ?_) (fun hc => ?_)
      · rw [hc, if_pos rfl] at hq0
        repeat (first | refine walkL_seq ?_ | refine walkL_skip ?_ | refine walkL_block ?_ | (refine walkL_region fun K hK => ?_; simp (maxSteps := 4000000) only [go_sem]; refine hK _ ?_; clear hK K) | refine walkL_nil ?_ | refine walkL_ret ?_ | refine walkL_exit ?_ | refine blockA_here ?_ | refine blockA_other rfl ?_ | refine blockA_ret ?_ | refine blockA_normal ?_ | refine thenA_ret ?_ | refine thenA_exit ?_ | refine thenA_normal ?_)
        simp (maxSteps := 4000000) only [go_sem, hq0]
      · rw [hc] at hq0
        repeat (first | refine walkL_seq ?_ | refine walkL_skip ?_ | refine walkL_block ?_ | (refine walkL_region fun K hK => ?_; simp (maxSteps := 4000000) only [go_sem, hw]; refine hK _ ?_; clear hK K) | refine walkL_nil ?_ | refine walkL_ret ?_ | refine walkL_exit ?_ | refine blockA_here ?_ | refine blockA_other rfl ?_ | refine blockA_ret ?_ | refine blockA_normal ?_ | refine thenA_ret ?_ | refine thenA_exit ?_ | refine thenA_normal ?_)
        refine ⟨rfl, i + 1, ?_, ⟨hlt, hq0⟩, by omega⟩
        refine weak_of [] ?_ ?_ rfl rfl <;> simp [lessT, lessM, lessB, AV.less]
    · have he : i = xs.length := by (have : ¬ i < xs.length := by simpa using hb); omega
      subst he
      repeat (first | refine walkL_seq ?_ | refine walkL_skip ?_ | refine walkL_block ?_ | (refine walkL_region fun K hK => ?_; simp (maxSteps := 4000000) only [go_sem]; refine hK _ ?_; clear hK K) | refine walkL_nil ?_ | refine walkL_ret ?_ | refine walkL_exit ?_ | refine blockA_here ?_ | refine blockA_other rfl ?_ | refine blockA_ret ?_ | refine blockA_normal ?_ | refine thenA_ret ?_ | refine thenA_exit ?_ | refine thenA_normal ?_)
      simp (maxSteps := 4000000) only [go_sem, hq0, List.drop_length, idxFrom]
theorem f155 (xs : List (List Hour)) (g : Nat) (caps : List DV) (q : (List Hour) → Bool) (hq : ∀ s ∈ xs, Fn Tryz.prog g (.agg [.sl (hourRows s)] :: caps) (.bool (q s))) (hl : xs.length < 2 ^ 62) : Fn Tryz.prog 155 [.sl (scenRows xs), .fn g caps] (.bool (xs.any q)) := by
  refine fn_walk 9 Tryz.call155 Tryz.func155 rfl (by decide) fun J => ?_
  simp (maxSteps := 4000000) only [go_sem, St.start, Tryz.ntmps155, Tryz.results155]
  repeat (first | refine walkL_seq ?_ | refine walkL_skip ?_ | refine walkL_block ?_ | (refine walkL_region fun K hK => ?_; simp (maxSteps := 4000000) only [go_sem]; (repeat (first | (refine ⟨_, .lent (hf := f165 xs g caps q hq hl) (hd := rfl) (hr := rfl), ?_⟩; simp (maxSteps := 4000000) only [go_sem]) | (refine ⟨_, .given (hf := f165 xs g caps q hq hl) (hd := rfl) (ha := rfl), ?_⟩; simp (maxSteps := 4000000) only [go_sem]))); refine hK _ ?_; clear hK K) | refine walkL_nil ?_ | refine walkL_ret ?_ | refine walkL_exit ?_ | refine blockA_here ?_ | refine blockA_other rfl ?_ | refine blockA_ret ?_ | refine blockA_normal ?_ | refine thenA_ret ?_ | refine thenA_exit ?_ | refine thenA_normal ?_)
  simp (maxSteps := 4000000) only [go_sem, idxFrom_nonneg]
theorem f156 (s : (List Hour)) (g : Nat) (caps : List DV) (b : Bool) (hq : Fn Tryz.prog g (.agg [.sl (hourRows s)] :: caps) (.bool b)) : Fn Tryz.prog 156 [.agg [.sl (hourRows s)], .ptr [.fn g caps] 0] (.bool (!b)) := by
  refine fn_walk 8 Tryz.call156 Tryz.func156 rfl (by decide) fun J => ?_
  simp (maxSteps := 4000000) only [go_sem, St.start, Tryz.ntmps156, Tryz.results156]
  repeat (first | refine walkL_seq ?_ | refine walkL_skip ?_ | refine walkL_block ?_ | (refine walkL_region fun K hK => ?_; simp (maxSteps := 4000000) only [go_sem]; refine hK _ ?_; clear hK K) | refine walkL_nil ?_ | refine walkL_ret ?_ | refine walkL_exit ?_ | refine blockA_here ?_ | refine blockA_other rfl ?_ | refine blockA_ret ?_ | refine blockA_normal ?_ | refine thenA_ret ?_ | refine thenA_exit ?_ | refine thenA_normal ?_)
  refine walkL_region fun K hK => ?_
  simp (maxSteps := 4000000) only [go_sem]
  refine ⟨_, .lent (hf := hq) (hd := reify_caps _ _ _ _ rfl) (hr := rfl), ?_⟩
  simp (maxSteps := 4000000) only [go_sem]
  refine hK _ ?_
  clear hK K
  repeat (first | refine walkL_seq ?_ | refine walkL_skip ?_ | refine walkL_block ?_ | (refine walkL_region fun K hK => ?_; simp (maxSteps := 4000000) only [go_sem]; refine hK _ ?_; clear hK K) | refine walkL_nil ?_ | refine walkL_ret ?_ | refine walkL_exit ?_ | refine blockA_here ?_ | refine blockA_other rfl ?_ | refine blockA_ret ?_ | refine blockA_normal ?_ | refine thenA_ret ?_ | refine thenA_exit ?_ | refine thenA_normal ?_)
  simp (maxSteps := 4000000) only [go_sem]
theorem f132 (xs : List (List Hour)) (g : Nat) (caps : List DV) (q : (List Hour) → Bool) (hq : ∀ s ∈ xs, Fn Tryz.prog g (.agg [.sl (hourRows s)] :: caps) (.bool (q s))) (hl : xs.length < 2 ^ 62) : Fn Tryz.prog 132 [.sl (scenRows xs), .fn g caps] (.bool (xs.all q)) := by
  have h := f155 xs 156 [.ptr [.fn g caps] 0] (fun s => !q s) (fun s hs => f156 s g caps (q s) (hq s hs)) hl
  refine fn_walk 9 Tryz.call132 Tryz.func132 rfl (by decide) fun J => ?_
  simp (maxSteps := 4000000) only [go_sem, St.start, Tryz.ntmps132, Tryz.results132]
  repeat (first | refine walkL_seq ?_ | refine walkL_skip ?_ | refine walkL_block ?_ | (refine walkL_region fun K hK => ?_; simp (maxSteps := 4000000) only [go_sem]; (repeat (first | (refine ⟨_, .lent (hf := h) (hd := rfl) (hr := rfl), ?_⟩; simp (maxSteps := 4000000) only [go_sem]) | (refine ⟨_, .given (hf := h) (hd := rfl) (ha := rfl), ?_⟩; simp (maxSteps := 4000000) only [go_sem]))); refine hK _ ?_; clear hK K) | refine walkL_nil ?_ | refine walkL_ret ?_ | refine walkL_exit ?_ | refine blockA_here ?_ | refine blockA_other rfl ?_ | refine blockA_ret ?_ | refine blockA_normal ?_ | refine thenA_ret ?_ | refine thenA_exit ?_ | refine thenA_normal ?_)
  simp (maxSteps := 4000000) only [go_sem, any_not]
end Go.Ab
namespace Go.Ab
open Go.RowKit Go.Proofs
set_option maxHeartbeats 4000000
set_option maxRecDepth 20000
attribute [local irreducible] WalkL Walk
structure ForeSmall (F : List (List Hour)) : Prop where
  scen : F.length < 2 ^ 30
  hours : ∀ l ∈ F, l.length < 2 ^ 30
def scenB (h0 x : List Hour) : Bool := withinB x.length 1 48 && (((x.length : Int) == (h0.length : Int)) && x.all hourB)
theorem f129 (F : List (List Hour)) (h0 x : List Hour) (h : F[0]? = some h0) (hx : x.length < 2 ^ 30) : Fn Tryz.prog 129 [.agg [.sl (hourRows x)], .ptr [.sl (scenRows F)] 0] (.bool (scenB h0 x)) := by
  have g0 := scenRows_at h
  refine fn_walk 25 Tryz.call129 Tryz.func129 rfl (by decide) fun J => ?_
  simp (maxSteps := 4000000) only [go_sem, St.start, Tryz.ntmps129, Tryz.results129]
  repeat (first | refine walkL_seq ?_ | refine walkL_skip ?_ | refine walkL_block ?_ | (refine walkL_region fun K hK => ?_; simp (maxSteps := 4000000) only [go_sem]; refine hK _ ?_; clear hK K) | refine walkL_nil ?_ | refine walkL_ret ?_ | refine walkL_exit ?_ | refine blockA_here ?_ | refine blockA_other rfl ?_ | refine blockA_ret ?_ | refine blockA_normal ?_ | refine thenA_ret ?_ | refine thenA_exit ?_ | refine thenA_normal ?_)
  refine walkL_meetS [(3, .d (.bool (scenB h0 x)))] [] ?_ ?_
  · refine walkL_drawn (by kernel_rfl) (by kernel_rfl) fun K hK => ?_
    simp (maxSteps := 4000000) only [go_sem, g0]
    refine ⟨_, .fn (hf := f87 x.length 1 48) (hd := rfl) (hr := .inl rfl), ?_⟩
    simp (maxSteps := 4000000) only [go_sem, g0]
    by_cases ho0 : (withinB x.length 1 48) = true
    · simp (maxSteps := 4000000) only [go_sem, g0, ho0]
      by_cases ho1 : ((x.length : Int) == (h0.length : Int)) = true
      · simp (maxSteps := 4000000) only [go_sem, g0, ho0, ho1]
        refine ⟨_, .fn (hf := f130 x 131 [] hourB (fun s _ => f131 s) (by omega)) (hd := rfl) (hr := .inl rfl), ?_⟩
        simp (maxSteps := 4000000) only [go_sem, g0, ho0, ho1]
        refine ⟨by kernel_rfl, hK _ ?_⟩
        clear hK K
        refine walkL_nil ?_
        refine thenA_normal ?_
        refine ⟨rfl, ?_⟩
        rw [show (scenB h0 x) = (x.all hourB) from by simp [scenB, ho0, ho1]]
        simp (maxSteps := 4000000) only [go_sem]
        refine weak_of [] ?_ ?_ rfl rfl <;> simp [lessT, lessM, lessB, AV.less]
      · simp (maxSteps := 4000000) only [go_sem, g0, ho0, ho1]
        refine ⟨by kernel_rfl, hK _ ?_⟩
        clear hK K
        refine walkL_nil ?_
        refine thenA_normal ?_
        refine ⟨rfl, ?_⟩
        rw [show (scenB h0 x) = (false) from by simp [scenB, ho0, ho1]]
        simp (maxSteps := 4000000) only [go_sem]
        refine weak_of [] ?_ ?_ rfl rfl <;> simp [lessT, lessM, lessB, AV.less]
    · simp (maxSteps := 4000000) only [go_sem, g0, ho0]
      refine ⟨by kernel_rfl, hK _ ?_⟩
      clear hK K
      refine walkL_nil ?_
      refine thenA_normal ?_
      refine ⟨rfl, ?_⟩
      rw [show (scenB h0 x) = (false) from by simp [scenB, ho0]]
      simp (maxSteps := 4000000) only [go_sem]
      refine weak_of [] ?_ ?_ rfl rfl <;> simp [lessT, lessM, lessB, AV.less]
  simp (maxSteps := 4000000) only [go_sem]
  repeat (first | refine walkL_seq ?_ | refine walkL_skip ?_ | refine walkL_block ?_ | (refine walkL_region fun K hK => ?_; simp (maxSteps := 4000000) only [go_sem]; refine hK _ ?_; clear hK K) | refine walkL_nil ?_ | refine walkL_ret ?_ | refine walkL_exit ?_ | refine blockA_here ?_ | refine blockA_other rfl ?_ | refine blockA_ret ?_ | refine blockA_normal ?_ | refine thenA_ret ?_ | refine thenA_exit ?_ | refine thenA_normal ?_)
  simp (maxSteps := 4000000) only [go_sem]
def hd0 (F : List (List Hour)) : List Hour := F.headD []
def badF (F : List (List Hour)) : Bool := !withinB F.length 1 6 || !(F.all (scenB (hd0 F)))
def foreF (F : List (List Hour)) : Int := if badF F then 50 else 0
theorem headD_get {F : List (List Hour)} (h : 0 < F.length) : F[0]? = some (hd0 F) := by
  cases F with
  | nil => simp at h
  | cons a l => rfl
theorem f85 (F : List (List Hour)) (hs : ForeSmall F) : Fn Tryz.prog 85 [.agg [.sl (scenRows F)]] (.i (foreF F)) := by
  have h1 := hs.scen
  have h116 : withinB F.length 1 6 = true → Fn Tryz.prog 132 [.sl (scenRows F), .fn 129 [.ptr [.sl (scenRows F)] 0]] (.bool (F.all (scenB (hd0 F)))) := fun h =>
    f132 F 129 [.ptr [.sl (scenRows F)] 0] (scenB (hd0 F)) (fun s hm => f129 F (hd0 F) s (headD_get (by have := within_iff.1 h; omega)) (hs.hours s hm)) (by omega)
  refine fn_walk 17 Tryz.call85 Tryz.func85 rfl (by decide) fun J => ?_
  simp (maxSteps := 4000000) only [go_sem, St.start, Tryz.ntmps85, Tryz.results85]
  repeat (first | refine walkL_seq ?_ | refine walkL_skip ?_ | refine walkL_block ?_ | (refine walkL_region fun K hK => ?_; simp (maxSteps := 4000000) only [go_sem]; refine hK _ ?_; clear hK K) | refine walkL_nil ?_ | refine walkL_ret ?_ | refine walkL_exit ?_ | refine blockA_here ?_ | refine blockA_other rfl ?_ | refine blockA_ret ?_ | refine blockA_normal ?_ | refine thenA_ret ?_ | refine thenA_exit ?_ | refine thenA_normal ?_)
  refine walkL_meetS [(16, .d (.bool (badF F)))] [] ?_ ?_
  · refine walkL_region fun K hK => ?_
    simp (maxSteps := 4000000) only [go_sem]
    refine ⟨_, .lent (hf := f87 F.length 1 6) (hd := rfl) (hr := rfl), ?_⟩
    simp (maxSteps := 4000000) only [go_sem]
    by_cases ho0 : (!withinB F.length 1 6) = true
    · simp (maxSteps := 4000000) only [go_sem, ho0]
      refine hK _ ?_
      clear hK K
      refine walkL_nil ?_
      refine thenA_normal ?_
      refine ⟨rfl, ?_⟩
      rw [show (badF F) = (true) from by simp [badF, ho0]]
      simp (maxSteps := 4000000) only [go_sem]
      refine weak_of [] ?_ ?_ rfl rfl <;> simp [lessT, lessM, lessB, AV.less]
    · simp (maxSteps := 4000000) only [go_sem, ho0]
      refine ⟨_, .lent (hf := h116 (by simpa using ho0)) (hd := rfl) (hr := rfl), ?_⟩
      simp (maxSteps := 4000000) only [go_sem, ho0]
      refine hK _ ?_
      clear hK K
      refine walkL_nil ?_
      refine thenA_normal ?_
      refine ⟨rfl, ?_⟩
      rw [show (badF F) = (!(F.all (scenB (hd0 F)))) from by simp [badF, ho0]]
      simp (maxSteps := 4000000) only [go_sem]
      refine weak_of [] ?_ ?_ rfl rfl <;> simp [lessT, lessM, lessB, AV.less]
  · simp (maxSteps := 4000000) only [go_sem]
    repeat (first | refine walkL_seq ?_ | refine walkL_skip ?_ | refine walkL_block ?_ | (refine walkL_region fun K hK => ?_; simp (maxSteps := 4000000) only [go_sem]; refine hK _ ?_; clear hK K) | refine walkL_nil ?_ | refine walkL_ret ?_ | refine walkL_exit ?_ | refine blockA_here ?_ | refine blockA_other rfl ?_ | refine blockA_ret ?_ | refine blockA_normal ?_ | refine thenA_ret ?_ | refine thenA_exit ?_ | refine thenA_normal ?_)
    refine walkL_cond rfl (fun hc => ?_) (fun hc => ?_)
    · repeat (first | refine walkL_seq ?_ | refine walkL_skip ?_ | refine walkL_block ?_ | (refine walkL_region fun K hK => ?_; simp (maxSteps := 4000000) only [go_sem]; refine hK _ ?_; clear hK K) | refine walkL_nil ?_ | refine walkL_ret ?_ | refine walkL_exit ?_ | refine blockA_here ?_ | refine blockA_other rfl ?_ | refine blockA_ret ?_ | refine blockA_normal ?_ | refine thenA_ret ?_ | refine thenA_exit ?_ | refine thenA_normal ?_)
      simp (maxSteps := 4000000) only [go_sem, foreF, hc]
    · repeat (first | refine walkL_seq ?_ | refine walkL_skip ?_ | refine walkL_block ?_ | (refine walkL_region fun K hK => ?_; simp (maxSteps := 4000000) only [go_sem]; refine hK _ ?_; clear hK K) | refine walkL_nil ?_ | refine walkL_ret ?_ | refine walkL_exit ?_ | refine blockA_here ?_ | refine blockA_other rfl ?_ | refine blockA_ret ?_ | refine blockA_normal ?_ | refine thenA_ret ?_ | refine thenA_exit ?_ | refine thenA_normal ?_)
      simp (maxSteps := 4000000) only [go_sem, foreF, hc]
def sightOk (H : Int) (s : Sight) : Bool := withinB s.hour 0 (H - 1) && hourB (pointH s.sky)
def sightsB (H : Int) (l : List Sight) : Bool := l.all (sightOk H) && (decide ((l.map (·.hour)).Nodup) && decide ((l.length : Int) ≤ 20))
def entsFrom : List Sight → Nat → List (MK × DV × Nat)
  | [], _ => []
  | s :: l, j => (.i s.hour, .i 1, j) :: entsFrom l (j + 1)
theorem ents_none {k : Int} : ∀ (l : List Sight) (j i : Nat), k ∉ l.map (·.hour) → findE (entsFrom l j) (.i k) i = none
  | [], _, _, _ => rfl
  | s :: l, j, i, h => by
    simp only [List.map_cons, List.mem_cons, not_or] at h
    rw [entsFrom, findE, if_neg (fun e => h.1 (MK.i.inj e))]
    exact ents_none l (j + 1) (i + 1) h.2
theorem ents_some {k : Int} : ∀ (l : List Sight) (j i : Nat), k ∈ l.map (·.hour) → ∃ q b, findE (entsFrom l j) (.i k) i = some (i + q, .i 1, b)
  | [], _, _, h => by simp at h
  | s :: l, j, i, h => by
    rw [entsFrom, findE]
    by_cases hk : k = s.hour
    · exact ⟨0, j, by rw [if_pos (by rw [hk])]; rfl⟩
    · rw [if_neg (fun e => hk (MK.i.inj e))]
      obtain ⟨q, b, hq⟩ := ents_some l (j + 1) (i + 1) (by simpa [hk] using h)
      exact ⟨q + 1, b, by rw [hq]; congr 2; omega⟩
theorem findE_set {k : MK} {d v : DV} {b : Nat} : ∀ (es : List (MK × DV × Nat)) (i q : Nat), findE es k i = some (i + q, v, b) → findE (es.set q (k, d, b)) k i = some (i + q, d, b)
  | [], _, _, h => by cases h
  | e :: es, i, q, h => by
    rw [findE] at h
    by_cases hk : k = e.1
    · rw [if_pos hk] at h
      have : q = 0 := by
        have := congrArg (fun o => o.map (·.1)) h
        simp at this
        omega
      subst this
      rw [List.set_cons_zero, findE, if_pos rfl]
      rfl
    · rw [if_neg hk] at h
      cases q with
      | zero =>
        exfalso
        have : ∀ (es : List (MK × DV × Nat)) (i p : Nat) (r : DV × Nat), findE es k i = some (p, r) → i ≤ p := by
          intro es
          induction es with
          | nil => intro i p r h; cases h
          | cons e es ih =>
            intro i p r h
            rw [findE] at h
            split at h
            · cases h; exact Nat.le_refl _
            · have := ih (i + 1) p r h; omega
        have := this es (i + 1) (i + 0) _ h
        omega
      | succ q =>
        rw [List.set_cons_succ, findE, if_neg hk, show i + (q + 1) = (i + 1) + q by omega]
        exact findE_set es (i + 1) q (by rw [h]; congr 2; omega)
theorem findE_push {k : MK} {d : DV} {b : Nat} : ∀ (es : List (MK × DV × Nat)) (i : Nat), findE es k i = none → findE (es ++ [(k, d, b)]) k i = some (i + es.length, d, b)
  | [], i, _ => by simp [findE]
  | e :: es, i, h => by
    rw [findE] at h
    split at h
    · cases h
    · rename_i hk
      rw [List.cons_append, findE, if_neg hk, findE_push es (i + 1) h]
      congr 2
      simp; omega
theorem ents_push (s : Sight) : ∀ (l : List Sight) (j : Nat), entsFrom (l ++ [s]) j = entsFrom l j ++ [(.i s.hour, .i 1, j + l.length)]
  | [], j => by simp [entsFrom]
  | x :: l, j => by simp [entsFrom, ents_push s l]; omega
theorem f105 (F : List (List Hour)) (h0 : List Hour) (seen : List Sight) (h : F[0]? = some h0) (hl : h0.length < 2 ^ 30) (hsl : seen.length < 2 ^ 30) :
    Fn Tryz.prog 105 [.agg [.sl (scenRows F)], .sl (sightRows seen)] (.bool (sightsB h0.length seen)) := by
  have g0 := scenRows_at h
  have hw0 : IntKind.i64.wrap ((h0.length : Int) - 1) = (h0.length : Int) - 1 := wr_small (by omega)
  have w1 : IntKind.i64.wrap (0 + 1) = 1 := by decide
  have w2 : IntKind.i64.wrap (1 + 1) = 2 := by decide
  have d21 : decide ((2 : Int) > 1) = true := rfl
  have d11 : decide ((1 : Int) > 1) = false := rfl
  refine fn_walk 49 Tryz.call105 Tryz.func105 rfl (by decide) fun J => ?_
  simp (maxSteps := 4000000) only [go_sem, St.start, Tryz.ntmps105, Tryz.results105]
  repeat (first | refine walkL_seq ?_ | refine walkL_skip ?_ | refine walkL_block ?_ | (refine walkL_region fun K hK => ?_; simp (maxSteps := 4000000) only [go_sem]; refine hK _ ?_; clear hK K) | refine walkL_nil ?_ | refine walkL_ret ?_ | refine walkL_exit ?_ | refine blockA_here ?_ | refine blockA_other rfl ?_ | refine blockA_ret ?_ | refine blockA_normal ?_ | refine thenA_ret ?_ | refine thenA_exit ?_ | refine thenA_normal ?_)
  refine walkL_loopS (fun (i : Nat) => [(11, .d (.i i))]) (fun i => [(8, some (.mp none (entsFrom (seen.take i) 0) i))]) (fun i => i ≤ seen.length ∧ (seen.take i).all (sightOk h0.length) = true ∧ ((seen.take i).map (·.hour)).Nodup) (fun i => seen.length - i) 0 ?_ ⟨Nat.zero_le _, rfl, by simp⟩ ?_
  · simp (maxSteps := 4000000) only [go_sem]
    refine weak_of [] ?_ ?_ rfl rfl <;> simp [lessT, lessM, lessB, AV.less]
    first | done | rfl
  · intro i ⟨hi, hall, hnd⟩
    simp (maxSteps := 4000000) only [go_sem]
    repeat (first | refine walkL_seq ?_ | refine walkL_skip ?_ | refine walkL_block ?_ | (refine walkL_region fun K hK => ?_; simp (maxSteps := 4000000) only [go_sem]; refine hK _ ?_; clear hK K) | refine walkL_nil ?_ | refine walkL_ret ?_ | refine walkL_exit ?_ | refine blockA_here ?_ | refine blockA_other rfl ?_ | refine blockA_ret ?_ | refine blockA_normal ?_ | refine thenA_ret ?_ | refine thenA_exit ?_ | refine thenA_normal ?_)
    refine walkL_cond rfl (fun hb => ?_) (fun hb => ?_)
    · have hlt : i < seen.length := by simpa using hb
      have hw : IntKind.i64.wrap ((i : Int) + 1) = ((i + 1 : Nat) : Int) := by rw [wr_small (by omega)]; simp
      obtain ⟨s, hs⟩ : ∃ s, seen[i]? = some s := ⟨_, List.getElem?_eq_getElem hlt⟩
      have g1 := sightRows_at hs
      have h113 := f87 s.hour 0 ((h0.length : Int) - 1)
      have h111 := f110 s.sky
      have h115 := f131 (pointH s.sky)
      rw [Sky.row] at h111
      have htk : seen.take (i + 1) = seen.take i ++ [s] := by rw [List.take_add_one, hs]; rfl
      obtain ⟨b1, e1⟩ : ∃ b, b = withinB s.hour 0 ((h0.length : Int) - 1) := ⟨_, rfl⟩
      obtain ⟨b3, e3⟩ : ∃ b, b = hourB (pointH s.sky) := ⟨_, rfl⟩
      have hok : sightOk h0.length s = (b1 && b3) := by rw [sightOk, e1, e3]
      rw [← e1] at h113
      rw [← e3] at h115
      have hbad : sightOk h0.length s = false → sightsB h0.length seen = false := fun hf => by rw [sightsB, all_of_get hs hf]; rfl
      by_cases hk : s.hour ∈ (seen.take i).map (·.hour)
      · obtain ⟨q, b, hq⟩ := ents_some (seen.take i) 0 0 hk
        have hq2 := findE_set (d := .i 2) _ 0 q hq
        rw [Nat.zero_add] at hq hq2
        have hF : sightsB h0.length seen = false := by
          have : ¬ (seen.map (·.hour)).Nodup := fun hn => by
            have h3 : (((seen.take (i + 1)).map (·.hour))).Nodup := (List.Sublist.map _ (List.take_sublist _ _)).nodup hn
            rw [htk, List.map_append, List.nodup_append] at h3
            exact h3.2.2 _ hk _ (by simp) rfl
          simp [sightsB, this]
        repeat (first | refine walkL_seq ?_ | refine walkL_skip ?_ | refine walkL_block ?_ | (refine walkL_region fun K hK => ?_; simp (maxSteps := 4000000) only [go_sem, g1, Sight.row, hq, w2]; refine hK _ ?_; clear hK K) | refine walkL_nil ?_ | refine walkL_ret ?_ | refine walkL_exit ?_ | refine blockA_here ?_ | refine blockA_other rfl ?_ | refine blockA_ret ?_ | refine blockA_normal ?_ | refine thenA_ret ?_ | refine thenA_exit ?_ | refine thenA_normal ?_)
        cases b1
        all_goals
          repeat (first | refine walkL_seq ?_ | refine walkL_skip ?_ | refine walkL_block ?_ | (refine walkL_region fun K hK => ?_; simp (maxSteps := 4000000) only [go_sem, g1, g0, Sight.row, hq2, hw0, d21, d11]; (repeat (first | (refine ⟨_, .lent (hf := h113) (hd := rfl) (hr := rfl), ?_⟩; simp (maxSteps := 4000000) only [go_sem, g1, g0, Sight.row, hq2, hw0, d21, d11]) | (refine ⟨_, .given (hf := h113) (hd := rfl) (ha := rfl), ?_⟩; simp (maxSteps := 4000000) only [go_sem, g1, g0, Sight.row, hq2, hw0, d21, d11]))); refine hK _ ?_; clear hK K) | (refine walkL_drawn (by kernel_rfl) (by kernel_rfl) fun K hK => ?_; simp (maxSteps := 4000000) only [go_sem, g1, g0, Sight.row, hq2, hw0, d21, d11]; (repeat (first | (refine ⟨_, .fn (hf := h113) (hd := rfl) (hr := .inl rfl), ?_⟩; simp (maxSteps := 4000000) only [go_sem, g1, g0, Sight.row, hq2, hw0, d21, d11]))); refine ⟨by kernel_rfl, hK _ ?_⟩; clear hK K) | refine walkL_nil ?_ | refine walkL_ret ?_ | refine walkL_exit ?_ | refine blockA_here ?_ | refine blockA_other rfl ?_ | refine blockA_ret ?_ | refine blockA_normal ?_ | refine thenA_ret ?_ | refine thenA_exit ?_ | refine thenA_normal ?_)
          refine walkL_true rfl ?_
          repeat (first | refine walkL_seq ?_ | refine walkL_skip ?_ | refine walkL_block ?_ | (refine walkL_region fun K hK => ?_; simp (maxSteps := 4000000) only [go_sem]; refine hK _ ?_; clear hK K) | refine walkL_nil ?_ | refine walkL_ret ?_ | refine walkL_exit ?_ | refine blockA_here ?_ | refine blockA_other rfl ?_ | refine blockA_ret ?_ | refine blockA_normal ?_ | refine thenA_ret ?_ | refine thenA_exit ?_ | refine thenA_normal ?_)
          simp (maxSteps := 4000000) only [go_sem, hF]
      · have hq := ents_none (seen.take i) 0 0 hk
        have hq2 := findE_push (d := .i 1) (b := i) _ 0 hq
        rw [Nat.zero_add] at hq2
        have hp := ents_push s (seen.take i) 0
        have htl : (seen.take i).length = i := by simp; omega
        rw [← htk, htl, Nat.zero_add] at hp
        repeat (first | refine walkL_seq ?_ | refine walkL_skip ?_ | refine walkL_block ?_ | (refine walkL_region fun K hK => ?_; simp (maxSteps := 4000000) only [go_sem, g1, Sight.row, hq, w1]; refine hK _ ?_; clear hK K) | refine walkL_nil ?_ | refine walkL_ret ?_ | refine walkL_exit ?_ | refine blockA_here ?_ | refine blockA_other rfl ?_ | refine blockA_ret ?_ | refine blockA_normal ?_ | refine thenA_ret ?_ | refine thenA_exit ?_ | refine thenA_normal ?_)
        cases b1
        · repeat (first | refine walkL_seq ?_ | refine walkL_skip ?_ | refine walkL_block ?_ | (refine walkL_region fun K hK => ?_; simp (maxSteps := 4000000) only [go_sem, g1, g0, Sight.row, hq2, hw0, d21, d11]; (repeat (first | (refine ⟨_, .lent (hf := h113) (hd := rfl) (hr := rfl), ?_⟩; simp (maxSteps := 4000000) only [go_sem, g1, g0, Sight.row, hq2, hw0, d21, d11]) | (refine ⟨_, .given (hf := h113) (hd := rfl) (ha := rfl), ?_⟩; simp (maxSteps := 4000000) only [go_sem, g1, g0, Sight.row, hq2, hw0, d21, d11]))); refine hK _ ?_; clear hK K) | (refine walkL_drawn (by kernel_rfl) (by kernel_rfl) fun K hK => ?_; simp (maxSteps := 4000000) only [go_sem, g1, g0, Sight.row, hq2, hw0, d21, d11]; (repeat (first | (refine ⟨_, .fn (hf := h113) (hd := rfl) (hr := .inl rfl), ?_⟩; simp (maxSteps := 4000000) only [go_sem, g1, g0, Sight.row, hq2, hw0, d21, d11]))); refine ⟨by kernel_rfl, hK _ ?_⟩; clear hK K) | refine walkL_nil ?_ | refine walkL_ret ?_ | refine walkL_exit ?_ | refine blockA_here ?_ | refine blockA_other rfl ?_ | refine blockA_ret ?_ | refine blockA_normal ?_ | refine thenA_ret ?_ | refine thenA_exit ?_ | refine thenA_normal ?_)
          refine walkL_true rfl ?_
          repeat (first | refine walkL_seq ?_ | refine walkL_skip ?_ | refine walkL_block ?_ | (refine walkL_region fun K hK => ?_; simp (maxSteps := 4000000) only [go_sem]; refine hK _ ?_; clear hK K) | refine walkL_nil ?_ | refine walkL_ret ?_ | refine walkL_exit ?_ | refine blockA_here ?_ | refine blockA_other rfl ?_ | refine blockA_ret ?_ | refine blockA_normal ?_ | refine thenA_ret ?_ | refine thenA_exit ?_ | refine thenA_normal ?_)
          simp (maxSteps := 4000000) only [go_sem, hbad (by rw [hok]; rfl)]
        · cases b3
          · repeat (first | refine walkL_seq ?_ | refine walkL_skip ?_ | refine walkL_block ?_ | (refine walkL_region fun K hK => ?_; simp (maxSteps := 4000000) only [go_sem, g1, g0, Sight.row, hq2, hw0, d21, d11, pointH]; (repeat (first | (refine ⟨_, .lent (hf := h113) (hd := rfl) (hr := rfl), ?_⟩; simp (maxSteps := 4000000) only [go_sem, g1, g0, Sight.row, hq2, hw0, d21, d11, pointH]) | (refine ⟨_, .lent (hf := h111) (hd := rfl) (hr := rfl), ?_⟩; simp (maxSteps := 4000000) only [go_sem, g1, g0, Sight.row, hq2, hw0, d21, d11, pointH]) | (refine ⟨_, .lent (hf := h115) (hd := rfl) (hr := rfl), ?_⟩; simp (maxSteps := 4000000) only [go_sem, g1, g0, Sight.row, hq2, hw0, d21, d11, pointH]) | (refine ⟨_, .given (hf := h113) (hd := rfl) (ha := rfl), ?_⟩; simp (maxSteps := 4000000) only [go_sem, g1, g0, Sight.row, hq2, hw0, d21, d11, pointH]) | (refine ⟨_, .given (hf := h111) (hd := rfl) (ha := rfl), ?_⟩; simp (maxSteps := 4000000) only [go_sem, g1, g0, Sight.row, hq2, hw0, d21, d11, pointH]) | (refine ⟨_, .given (hf := h115) (hd := rfl) (ha := rfl), ?_⟩; simp (maxSteps := 4000000) only [go_sem, g1, g0, Sight.row, hq2, hw0, d21, d11, pointH]))); refine hK _ ?_; clear hK K) | (refine walkL_drawn (by kernel_rfl) (by kernel_rfl) fun K hK => ?_; simp (maxSteps := 4000000) only [go_sem, g1, g0, Sight.row, hq2, hw0, d21, d11, pointH]; (repeat (first | (refine ⟨_, .fn (hf := h113) (hd := rfl) (hr := .inl rfl), ?_⟩; simp (maxSteps := 4000000) only [go_sem, g1, g0, Sight.row, hq2, hw0, d21, d11, pointH]) | (refine ⟨_, .fn (hf := h111) (hd := rfl) (hr := .inl rfl), ?_⟩; simp (maxSteps := 4000000) only [go_sem, g1, g0, Sight.row, hq2, hw0, d21, d11, pointH]) | (refine ⟨_, .fn (hf := h115) (hd := rfl) (hr := .inl rfl), ?_⟩; simp (maxSteps := 4000000) only [go_sem, g1, g0, Sight.row, hq2, hw0, d21, d11, pointH]))); refine ⟨by kernel_rfl, hK _ ?_⟩; clear hK K) | refine walkL_nil ?_ | refine walkL_ret ?_ | refine walkL_exit ?_ | refine blockA_here ?_ | refine blockA_other rfl ?_ | refine blockA_ret ?_ | refine blockA_normal ?_ | refine thenA_ret ?_ | refine thenA_exit ?_ | refine thenA_normal ?_)
            refine walkL_true rfl ?_
            repeat (first | refine walkL_seq ?_ | refine walkL_skip ?_ | refine walkL_block ?_ | (refine walkL_region fun K hK => ?_; simp (maxSteps := 4000000) only [go_sem]; refine hK _ ?_; clear hK K) | refine walkL_nil ?_ | refine walkL_ret ?_ | refine walkL_exit ?_ | refine blockA_here ?_ | refine blockA_other rfl ?_ | refine blockA_ret ?_ | refine blockA_normal ?_ | refine thenA_ret ?_ | refine thenA_exit ?_ | refine thenA_normal ?_)
            simp (maxSteps := 4000000) only [go_sem, hbad (by rw [hok]; rfl)]
          · repeat (first | refine walkL_seq ?_ | refine walkL_skip ?_ | refine walkL_block ?_ | (refine walkL_region fun K hK => ?_; simp (maxSteps := 4000000) only [go_sem, g1, g0, Sight.row, hq2, hw0, d21, d11, pointH]; (repeat (first | (refine ⟨_, .lent (hf := h113) (hd := rfl) (hr := rfl), ?_⟩; simp (maxSteps := 4000000) only [go_sem, g1, g0, Sight.row, hq2, hw0, d21, d11, pointH]) | (refine ⟨_, .lent (hf := h111) (hd := rfl) (hr := rfl), ?_⟩; simp (maxSteps := 4000000) only [go_sem, g1, g0, Sight.row, hq2, hw0, d21, d11, pointH]) | (refine ⟨_, .lent (hf := h115) (hd := rfl) (hr := rfl), ?_⟩; simp (maxSteps := 4000000) only [go_sem, g1, g0, Sight.row, hq2, hw0, d21, d11, pointH]) | (refine ⟨_, .given (hf := h113) (hd := rfl) (ha := rfl), ?_⟩; simp (maxSteps := 4000000) only [go_sem, g1, g0, Sight.row, hq2, hw0, d21, d11, pointH]) | (refine ⟨_, .given (hf := h111) (hd := rfl) (ha := rfl), ?_⟩; simp (maxSteps := 4000000) only [go_sem, g1, g0, Sight.row, hq2, hw0, d21, d11, pointH]) | (refine ⟨_, .given (hf := h115) (hd := rfl) (ha := rfl), ?_⟩; simp (maxSteps := 4000000) only [go_sem, g1, g0, Sight.row, hq2, hw0, d21, d11, pointH]))); refine hK _ ?_; clear hK K) | (refine walkL_drawn (by kernel_rfl) (by kernel_rfl) fun K hK => ?_; simp (maxSteps := 4000000) only [go_sem, g1, g0, Sight.row, hq2, hw0, d21, d11, pointH]; (repeat (first | (refine ⟨_, .fn (hf := h113) (hd := rfl) (hr := .inl rfl), ?_⟩; simp (maxSteps := 4000000) only [go_sem, g1, g0, Sight.row, hq2, hw0, d21, d11, pointH]) | (refine ⟨_, .fn (hf := h111) (hd := rfl) (hr := .inl rfl), ?_⟩; simp (maxSteps := 4000000) only [go_sem, g1, g0, Sight.row, hq2, hw0, d21, d11, pointH]) | (refine ⟨_, .fn (hf := h115) (hd := rfl) (hr := .inl rfl), ?_⟩; simp (maxSteps := 4000000) only [go_sem, g1, g0, Sight.row, hq2, hw0, d21, d11, pointH]))); refine ⟨by kernel_rfl, hK _ ?_⟩; clear hK K) | refine walkL_nil ?_ | refine walkL_ret ?_ | refine walkL_exit ?_ | refine blockA_here ?_ | refine blockA_other rfl ?_ | refine blockA_ret ?_ | refine blockA_normal ?_ | refine thenA_ret ?_ | refine thenA_exit ?_ | refine thenA_normal ?_)
            refine walkL_false rfl ?_
            repeat (first | refine walkL_seq ?_ | refine walkL_skip ?_ | refine walkL_block ?_ | (refine walkL_region fun K hK => ?_; simp (maxSteps := 4000000) only [go_sem, hw]; refine hK _ ?_; clear hK K) | refine walkL_nil ?_ | refine walkL_ret ?_ | refine walkL_exit ?_ | refine blockA_here ?_ | refine blockA_other rfl ?_ | refine blockA_ret ?_ | refine blockA_normal ?_ | refine thenA_ret ?_ | refine thenA_exit ?_ | refine thenA_normal ?_)
            refine ⟨rfl, i + 1, ?_, ⟨hlt, all_take_succ hs hall (by rw [hok]; rfl), ?_⟩, by omega⟩
            · rw [hp]
              refine weak_of [] ?_ ?_ rfl rfl <;> simp [lessT, lessM, lessB, AV.less]
            · rw [htk, List.map_append, List.nodup_append]
              exact ⟨hnd, by simp, fun a ha b hb e => hk (by
                have : b = s.hour := by simpa using hb
                rw [← this, ← e]; exact ha)⟩
    · have he : i = seen.length := by (have : ¬ i < seen.length := by simpa using hb); omega
      subst he
      rw [List.take_length] at hall hnd
      repeat (first | refine walkL_seq ?_ | refine walkL_skip ?_ | refine walkL_block ?_ | (refine walkL_region fun K hK => ?_; simp (maxSteps := 4000000) only [go_sem]; refine hK _ ?_; clear hK K) | refine walkL_nil ?_ | refine walkL_ret ?_ | refine walkL_exit ?_ | refine blockA_here ?_ | refine blockA_other rfl ?_ | refine blockA_ret ?_ | refine blockA_normal ?_ | refine thenA_ret ?_ | refine thenA_exit ?_ | refine thenA_normal ?_)
      simp (maxSteps := 4000000) only [go_sem, sightsB, hall, hnd]
end Go.Ab
namespace Go.Ab
open Go.RowKit Go.Proofs
set_option maxHeartbeats 4000000
set_option maxRecDepth 20000
attribute [local irreducible] WalkL Walk
theorem isEmpty_rows {α β : Type} {f : α → β} {l : List α} (h : l ≠ []) : (l.map f).isEmpty = false := by cases l <;> simp at h ⊢
theorem f106 (l : List Hour) (h : l ≠ []) (hl : l.length < 2 ^ 30) : FnS Tryz.prog 106 [.sl (hourRows l)] 133 6 (hourRows l) := by
  have hne : (hourRows l).isEmpty = false := isEmpty_rows h
  have h1 : l.length ≤ 549755813888 := by omega
  have h2 : 0 + l.length ≤ 549755813888 := by omega
  refine fnS_walk 8 Tryz.call106 Tryz.func106 rfl (by decide) fun J => ?_
  simp (maxSteps := 4000000) only [go_sem, St.start, Tryz.ntmps106, Tryz.results106]
  repeat (first | refine walkL_seq ?_ | refine walkL_skip ?_ | refine walkL_block ?_ | (refine walkL_region fun K hK => ?_; simp (maxSteps := 4000000) only [go_sem, hne]; refine hK _ ?_; clear hK K) | refine walkL_nil ?_ | refine walkL_ret ?_ | refine walkL_exit ?_ | refine blockA_here ?_ | refine blockA_other rfl ?_ | refine blockA_ret ?_ | refine blockA_normal ?_ | refine thenA_ret ?_ | refine thenA_exit ?_ | refine thenA_normal ?_)
  refine walkL_false rfl ?_
  repeat (first | refine walkL_seq ?_ | refine walkL_skip ?_ | refine walkL_block ?_ | (refine walkL_region fun K hK => ?_; simp (maxSteps := 4000000) only [go_sem, h1, h2, List.nil_append, List.length_nil]; refine hK _ ?_; clear hK K) | refine walkL_nil ?_ | refine walkL_ret ?_ | refine walkL_exit ?_ | refine blockA_here ?_ | refine blockA_other rfl ?_ | refine blockA_ret ?_ | refine blockA_normal ?_ | refine thenA_ret ?_ | refine thenA_exit ?_ | refine thenA_normal ?_)
  simp (maxSteps := 4000000) only [go_sem]
def noHour : Hour := ⟨⟨0, 0⟩, ⟨0, 0⟩, ⟨0, 0⟩⟩
def hourAt (l : List Hour) (i : Int) : Hour := l.getD i.toNat noHour
theorem hourAt_get {l : List Hour} {i : Int} (h : 0 ≤ i ∧ i.toNat < l.length) : l[i.toNat]? = some (hourAt l i) := by
  unfold hourAt
  rw [List.getD, List.getElem?_eq_getElem h.2]
  rfl
theorem f108 (s : Sight) (l : List Hour) (h : 0 ≤ s.hour ∧ s.hour.toNat < l.length) : Fn Tryz.prog 108 [.agg s.row, .ptr [.sl (hourRows l)] 0] (.bool (insideB s.sky (hourAt l s.hour))) := by
  have g1 := hourRows_at (hourAt_get h)
  have h110 := f109 s.sky (hourAt l s.hour)
  rw [Sky.row, Hour.row] at h110
  refine fn_walk 12 Tryz.call108 Tryz.func108 rfl (by decide) fun J => ?_
  simp (maxSteps := 4000000) only [go_sem, St.start, Tryz.ntmps108, Tryz.results108, Sight.row]
  repeat (first | refine walkL_seq ?_ | refine walkL_skip ?_ | refine walkL_block ?_ | (refine walkL_region fun K hK => ?_; simp (maxSteps := 4000000) only [go_sem]; refine hK _ ?_; clear hK K) | refine walkL_nil ?_ | refine walkL_ret ?_ | refine walkL_exit ?_ | refine blockA_here ?_ | refine blockA_other rfl ?_ | refine blockA_ret ?_ | refine blockA_normal ?_ | refine thenA_ret ?_ | refine thenA_exit ?_ | refine thenA_normal ?_)
  refine walkL_drawn (by kernel_rfl) (by kernel_rfl) fun K hK => ?_
  simp (maxSteps := 4000000) only [go_sem, g1, h.1, Hour.row]
  refine ⟨_, .fn (hf := h110) (hd := rfl) (hr := .inl rfl), ?_⟩
  simp (maxSteps := 4000000) only [go_sem]
  refine ⟨by kernel_rfl, hK _ ?_⟩
  clear hK K
  repeat (first | refine walkL_seq ?_ | refine walkL_skip ?_ | refine walkL_block ?_ | (refine walkL_region fun K hK => ?_; simp (maxSteps := 4000000) only [go_sem]; refine hK _ ?_; clear hK K) | refine walkL_nil ?_ | refine walkL_ret ?_ | refine walkL_exit ?_ | refine blockA_here ?_ | refine blockA_other rfl ?_ | refine blockA_ret ?_ | refine blockA_normal ?_ | refine thenA_ret ?_ | refine thenA_exit ?_ | refine thenA_normal ?_)
  simp (maxSteps := 4000000) only [go_sem]
def seenHours (seen : List Sight) (l : List Hour) : List Hour := seen.foldl (fun l s => l.set s.hour.toNat (pointH s.sky)) l
def agreesB (seen : List Sight) (l : List Hour) : Bool := seen.all fun s => insideB s.sky (hourAt l s.hour)
theorem seenHours_len (seen : List Sight) : ∀ l : List Hour, (seenHours seen l).length = l.length := by
  induction seen with
  | nil => intro l; rfl
  | cons s seen ih => intro l; rw [seenHours, List.foldl_cons]; exact (ih _).trans (by simp)
def possFrom (seen : List Sight) : List (List Hour) → Nat → List (Nat × List Hour)
  | [], _ => []
  | l :: F, j => if agreesB seen l then (j, seenHours seen l) :: possFrom seen F (j + 1) else possFrom seen F (j + 1)
def possL (F : List (List Hour)) (seen : List Sight) : List (Nat × List Hour) := possFrom seen F 0
def numsOf (l : List (Nat × List Hour)) : List Int := l.map fun x => (x.1 : Int)
def scensOf (l : List (Nat × List Hour)) : List (List Hour) := l.map (·.2)
theorem possFrom_push (seen : List Sight) (x : List Hour) : ∀ (F : List (List Hour)) (j : Nat), possFrom seen (F ++ [x]) j = possFrom seen F j ++ if agreesB seen x then [(j + F.length, seenHours seen x)] else []
  | [], j => by simp [possFrom]
  | l :: F, j => by
    rw [List.cons_append, possFrom, possFrom, possFrom_push seen x F (j + 1), List.length_cons, show j + 1 + F.length = j + (F.length + 1) by omega]
    by_cases h : agreesB seen l = true
    · rw [if_pos h, if_pos h]; rfl
    · rw [if_neg h, if_neg h]
theorem possFrom_len (seen : List Sight) : ∀ (F : List (List Hour)) (j : Nat), (possFrom seen F j).length ≤ F.length
  | [], _ => Nat.le_refl _
  | l :: F, j => by
    rw [possFrom]
    have := possFrom_len seen F (j + 1)
    split <;> simp <;> omega
theorem nums_push (l : List (Nat × List Hour)) (i : Nat) (x : List Hour) : intRows (numsOf (l ++ [(i, x)])) = intRows (numsOf l) ++ [[.i (i : Int)]] := by simp [numsOf, intRows]
theorem scens_push (l : List (Nat × List Hour)) (i : Nat) (x : List Hour) : scenRows (scensOf (l ++ [(i, x)])) = scenRows (scensOf l) ++ [[.sl (hourRows x)]] := by simp [scensOf, scenRows]
theorem nums_len (l : List (Nat × List Hour)) : (numsOf l).length = l.length := by simp [numsOf]
theorem scens_len (l : List (Nat × List Hour)) : (scensOf l).length = l.length := by simp [scensOf]
def lookF (F : List (List Hour)) (seen : List Sight) (err : Int) (told : Bool) : Int :=
  if badF F then 50 else if sightsB (hd0 F).length seen then (if err = 0 then (if told then (if (possL F seen).isEmpty then 3 else 0) else 1) else err) else 51
def lookV (F : List (List Hour)) (seen : List Sight) : DV := .ptr [.sl (intRows (numsOf (possL F seen))), .sl (scenRows (scensOf (possL F seen))), .i (hd0 F).length] 0
structure ForeGood (F : List (List Hour)) : Prop where
  scen : 1 ≤ F.length ∧ F.length ≤ 6
  hours : 1 ≤ (hd0 F).length ∧ (hd0 F).length ≤ 48
  len : ∀ l ∈ F, l.length = (hd0 F).length
  hour : ∀ l ∈ F, ∀ h ∈ l, hourB h = true
theorem fore_iff {F : List (List Hour)} : badF F = false ↔ ForeGood F := by
  unfold badF
  rw [Bool.or_eq_false_iff, Bool.not_eq_false', Bool.not_eq_false', within_iff, List.all_eq_true]
  constructor
  · rintro ⟨h1, h2⟩
    have h3 : ∀ l ∈ F, (1 ≤ l.length ∧ l.length ≤ 48) ∧ l.length = (hd0 F).length ∧ ∀ h ∈ l, hourB h = true := fun l hl => by
      have := h2 l hl
      unfold scenB at this
      rw [Bool.and_eq_true, Bool.and_eq_true, within_iff, List.all_eq_true] at this
      refine ⟨by omega, ?_, this.2.2⟩
      have := this.2.1
      have e := eq_of_beq this
      omega
    refine ⟨by omega, ?_, fun l hl => (h3 l hl).2.1, fun l hl => (h3 l hl).2.2⟩
    have hm : hd0 F ∈ F := List.mem_of_getElem? (headD_get (by omega))
    exact (h3 _ hm).1
  · intro h
    refine ⟨by have := h.scen; omega, fun l hl => ?_⟩
    unfold scenB
    have e := h.len l hl
    have := h.hours
    rw [Bool.and_eq_true, Bool.and_eq_true, within_iff, List.all_eq_true]
    exact ⟨by omega, by simp [e], h.hour l hl⟩
theorem sights_spec {H : Int} {seen : List Sight} (h : sightsB H seen = true) : (∀ s ∈ seen, 0 ≤ s.hour ∧ s.hour < H ∧ hourB (pointH s.sky) = true) ∧ (seen.map (·.hour)).Nodup ∧ seen.length ≤ 20 := by
  unfold sightsB at h
  rw [Bool.and_eq_true, Bool.and_eq_true, List.all_eq_true] at h
  refine ⟨fun s hs => ?_, of_decide_eq_true h.2.1, by have := of_decide_eq_true h.2.2; omega⟩
  have := h.1 s hs
  unfold sightOk at this
  rw [Bool.and_eq_true, within_iff] at this
  exact ⟨by omega, by omega, this.2⟩
theorem hourRows_set {l : List Hour} {i : Nat} {h : Hour} : (hourRows l).set i h.row = hourRows (l.set i h) := by simp [hourRows]
theorem f59 (F : List (List Hour)) (seen : List Sight) (err : Int) (told : Bool) (hs : ForeSmall F) (hsl : seen.length < 2 ^ 30) :
    Fn Tryz.prog 59 [.agg [.sl (scenRows F)], .sl (sightRows seen), .agg [.i err, .bool told]]
      (.tup [if lookF F seen err told = 0 then lookV F seen else .nilptr, .i (lookF F seen err told)]) := by
  have h106 := f85 F hs
  refine fn_walk 96 Tryz.call59 Tryz.func59 rfl (by decide) fun J => ?_
  simp (maxSteps := 4000000) only [go_sem, St.start, Tryz.ntmps59, Tryz.results59]
  cases hbad : badF F with
  | true =>
    have e : lookF F seen err told = 50 := by simp [lookF, hbad]
    have e2 : foreF F = 50 := by simp [foreF, hbad]
    rw [e2] at h106
    rw [e, if_neg (by decide)]
    repeat (first | refine walkL_seq ?_ | refine walkL_skip ?_ | refine walkL_block ?_ | (refine walkL_region fun K hK => ?_; simp (maxSteps := 4000000) only [go_sem]; (repeat (first | (refine ⟨_, .lent (hf := h106) (hd := rfl) (hr := rfl), ?_⟩; simp (maxSteps := 4000000) only [go_sem]) | (refine ⟨_, .given (hf := h106) (hd := rfl) (ha := rfl), ?_⟩; simp (maxSteps := 4000000) only [go_sem]))); refine hK _ ?_; clear hK K) | refine walkL_nil ?_ | refine walkL_ret ?_ | refine walkL_exit ?_ | refine blockA_here ?_ | refine blockA_other rfl ?_ | refine blockA_ret ?_ | refine blockA_normal ?_ | refine thenA_ret ?_ | refine thenA_exit ?_ | refine thenA_normal ?_)
    refine walkL_true rfl ?_
    repeat (first | refine walkL_seq ?_ | refine walkL_skip ?_ | refine walkL_block ?_ | (refine walkL_region fun K hK => ?_; simp (maxSteps := 4000000) only [go_sem]; refine hK _ ?_; clear hK K) | refine walkL_nil ?_ | refine walkL_ret ?_ | refine walkL_exit ?_ | refine blockA_here ?_ | refine blockA_other rfl ?_ | refine blockA_ret ?_ | refine blockA_normal ?_ | refine thenA_ret ?_ | refine thenA_exit ?_ | refine thenA_normal ?_)
    simp (maxSteps := 4000000) only [go_sem]
  | false =>
    have hg := fore_iff.1 hbad
    have e2 : foreF F = 0 := by simp [foreF, hbad]
    rw [e2] at h106
    have hF := hg.scen
    have hH := hg.hours
    have h0 : F[0]? = some (hd0 F) := headD_get (by omega)
    obtain ⟨H0, hH0⟩ : ∃ H0, H0 = hd0 F := ⟨_, rfl⟩
    rw [← hH0] at h0 hH
    have h107 := f105 F H0 seen h0 (by omega) hsl
    have g0 := scenRows_at h0
    cases hsi : sightsB (H0.length : Int) seen with
    | false =>
      have e : lookF F seen err told = 51 := by simp [lookF, hbad, ← hH0, hsi]
      rw [hsi] at h107
      rw [e, if_neg (by decide)]
      repeat (first | refine walkL_seq ?_ | refine walkL_skip ?_ | refine walkL_block ?_ | (refine walkL_region fun K hK => ?_; simp (maxSteps := 4000000) only [go_sem]; (repeat (first | (refine ⟨_, .lent (hf := h106) (hd := rfl) (hr := rfl), ?_⟩; simp (maxSteps := 4000000) only [go_sem]) | (refine ⟨_, .given (hf := h106) (hd := rfl) (ha := rfl), ?_⟩; simp (maxSteps := 4000000) only [go_sem]))); refine hK _ ?_; clear hK K) | refine walkL_nil ?_ | refine walkL_ret ?_ | refine walkL_exit ?_ | refine blockA_here ?_ | refine blockA_other rfl ?_ | refine blockA_ret ?_ | refine blockA_normal ?_ | refine thenA_ret ?_ | refine thenA_exit ?_ | refine thenA_normal ?_)
      refine walkL_false rfl ?_
      repeat (first | refine walkL_seq ?_ | refine walkL_skip ?_ | refine walkL_block ?_ | (refine walkL_region fun K hK => ?_; simp (maxSteps := 4000000) only [go_sem]; (repeat (first | (refine ⟨_, .lent (hf := h107) (hd := rfl) (hr := rfl), ?_⟩; simp (maxSteps := 4000000) only [go_sem]) | (refine ⟨_, .given (hf := h107) (hd := rfl) (ha := rfl), ?_⟩; simp (maxSteps := 4000000) only [go_sem]))); refine hK _ ?_; clear hK K) | refine walkL_nil ?_ | refine walkL_ret ?_ | refine walkL_exit ?_ | refine blockA_here ?_ | refine blockA_other rfl ?_ | refine blockA_ret ?_ | refine blockA_normal ?_ | refine thenA_ret ?_ | refine thenA_exit ?_ | refine thenA_normal ?_)
      refine walkL_true rfl ?_
      repeat (first | refine walkL_seq ?_ | refine walkL_skip ?_ | refine walkL_block ?_ | (refine walkL_region fun K hK => ?_; simp (maxSteps := 4000000) only [go_sem]; refine hK _ ?_; clear hK K) | refine walkL_nil ?_ | refine walkL_ret ?_ | refine walkL_exit ?_ | refine blockA_here ?_ | refine blockA_other rfl ?_ | refine blockA_ret ?_ | refine blockA_normal ?_ | refine thenA_ret ?_ | refine thenA_exit ?_ | refine thenA_normal ?_)
      simp (maxSteps := 4000000) only [go_sem]
    | true =>
      rw [hsi] at h107
      obtain ⟨s1, s2, s3⟩ := sights_spec hsi
      repeat (first | refine walkL_seq ?_ | refine walkL_skip ?_ | refine walkL_block ?_ | (refine walkL_region fun K hK => ?_; simp (maxSteps := 4000000) only [go_sem]; (repeat (first | (refine ⟨_, .lent (hf := h106) (hd := rfl) (hr := rfl), ?_⟩; simp (maxSteps := 4000000) only [go_sem]) | (refine ⟨_, .given (hf := h106) (hd := rfl) (ha := rfl), ?_⟩; simp (maxSteps := 4000000) only [go_sem]))); refine hK _ ?_; clear hK K) | refine walkL_nil ?_ | refine walkL_ret ?_ | refine walkL_exit ?_ | refine blockA_here ?_ | refine blockA_other rfl ?_ | refine blockA_ret ?_ | refine blockA_normal ?_ | refine thenA_ret ?_ | refine thenA_exit ?_ | refine thenA_normal ?_)
      refine walkL_false rfl ?_
      repeat (first | refine walkL_seq ?_ | refine walkL_skip ?_ | refine walkL_block ?_ | (refine walkL_region fun K hK => ?_; simp (maxSteps := 4000000) only [go_sem]; (repeat (first | (refine ⟨_, .lent (hf := h107) (hd := rfl) (hr := rfl), ?_⟩; simp (maxSteps := 4000000) only [go_sem]) | (refine ⟨_, .given (hf := h107) (hd := rfl) (ha := rfl), ?_⟩; simp (maxSteps := 4000000) only [go_sem]))); refine hK _ ?_; clear hK K) | refine walkL_nil ?_ | refine walkL_ret ?_ | refine walkL_exit ?_ | refine blockA_here ?_ | refine blockA_other rfl ?_ | refine blockA_ret ?_ | refine blockA_normal ?_ | refine thenA_ret ?_ | refine thenA_exit ?_ | refine thenA_normal ?_)
      refine walkL_false rfl ?_
      repeat (first | refine walkL_seq ?_ | refine walkL_skip ?_ | refine walkL_block ?_ | (refine walkL_region fun K hK => ?_; simp (maxSteps := 4000000) only [go_sem]; refine hK _ ?_; clear hK K) | refine walkL_nil ?_ | refine walkL_ret ?_ | refine walkL_exit ?_ | refine blockA_here ?_ | refine blockA_other rfl ?_ | refine blockA_ret ?_ | refine blockA_normal ?_ | refine thenA_ret ?_ | refine thenA_exit ?_ | refine thenA_normal ?_)
      by_cases herr : err = 0
      · subst herr
        refine walkL_false rfl ?_
        repeat (first | refine walkL_seq ?_ | refine walkL_skip ?_ | refine walkL_block ?_ | (refine walkL_region fun K hK => ?_; simp (maxSteps := 4000000) only [go_sem]; refine hK _ ?_; clear hK K) | refine walkL_nil ?_ | refine walkL_ret ?_ | refine walkL_exit ?_ | refine blockA_here ?_ | refine blockA_other rfl ?_ | refine blockA_ret ?_ | refine blockA_normal ?_ | refine thenA_ret ?_ | refine thenA_exit ?_ | refine thenA_normal ?_)
        cases told with
        | false =>
          have e : lookF F seen 0 false = 1 := by simp [lookF, hbad, ← hH0, hsi]
          rw [e, if_neg (by decide)]
          refine walkL_true rfl ?_
          repeat (first | refine walkL_seq ?_ | refine walkL_skip ?_ | refine walkL_block ?_ | (refine walkL_region fun K hK => ?_; simp (maxSteps := 4000000) only [go_sem]; refine hK _ ?_; clear hK K) | refine walkL_nil ?_ | refine walkL_ret ?_ | refine walkL_exit ?_ | refine blockA_here ?_ | refine blockA_other rfl ?_ | refine blockA_ret ?_ | refine blockA_normal ?_ | refine thenA_ret ?_ | refine thenA_exit ?_ | refine thenA_normal ?_)
          simp (maxSteps := 4000000) only [go_sem]
        | true =>
          refine walkL_false rfl ?_
          repeat (first | refine walkL_seq ?_ | refine walkL_skip ?_ | refine walkL_block ?_ | (refine walkL_region fun K hK => ?_; simp (maxSteps := 4000000) only [go_sem, g0]; refine hK _ ?_; clear hK K) | refine walkL_nil ?_ | refine walkL_ret ?_ | refine walkL_exit ?_ | refine blockA_here ?_ | refine blockA_other rfl ?_ | refine blockA_ret ?_ | refine blockA_normal ?_ | refine thenA_ret ?_ | refine thenA_exit ?_ | refine thenA_normal ?_)
          refine walkL_loopS (fun (i : Nat) => [(43, .d (.i i))]) (fun i => [(39, some (.box [.own 75, .own 85, .d (.i H0.length)])), (75, some (.arr 3 1 (intRows (numsOf (possFrom seen (F.take i) 0))))), (85, some (.arr 90 1 (scenRows (scensOf (possFrom seen (F.take i) 0)))))]) (fun i => i ≤ F.length) (fun i => F.length - i) 0 ?_ (Nat.zero_le _) ?_
          · simp (maxSteps := 4000000) only [go_sem]
            refine weak_of [75, 85] ?_ ?_ rfl rfl <;> simp [lessT, lessM, lessB, AV.less]
            all_goals first | done | rfl | exact ⟨rfl, rfl⟩
          · intro i hi
            simp (maxSteps := 4000000) only [go_sem]
            repeat (first | refine walkL_seq ?_ | refine walkL_skip ?_ | refine walkL_block ?_ | (refine walkL_region fun K hK => ?_; simp (maxSteps := 4000000) only [go_sem]; refine hK _ ?_; clear hK K) | refine walkL_nil ?_ | refine walkL_ret ?_ | refine walkL_exit ?_ | refine blockA_here ?_ | refine blockA_other rfl ?_ | refine blockA_ret ?_ | refine blockA_normal ?_ | refine thenA_ret ?_ | refine thenA_exit ?_ | refine thenA_normal ?_)
            refine walkL_cond rfl (fun hb => ?_) (fun hb => ?_)
            · have hlt : i < F.length := by simpa using hb
              have hw : IntKind.i64.wrap ((i : Int) + 1) = ((i + 1 : Nat) : Int) := by rw [wr_small (by omega)]; simp
              obtain ⟨l, hl⟩ : ∃ l, F[i]? = some l := ⟨_, List.getElem?_eq_getElem hlt⟩
              have hlm := List.mem_of_getElem? hl
              have hll : l.length = H0.length := by rw [hH0]; exact hg.len l hlm
              have g1 := scenRows_at hl
              have htk : F.take (i + 1) = F.take i ++ [l] := by rw [List.take_add_one, hl]; rfl
              have hp := possFrom_push seen l (F.take i) 0
              have htl : (F.take i).length = i := by simp; omega
              rw [← htk, htl, Nat.zero_add] at hp
              have hpl := possFrom_len seen (F.take i) 0
              rw [htl] at hpl
              have h81 := f106 l (by intro e; rw [e] at hll; simp at hll; omega) (by omega)
              have hrange : ∀ s ∈ seen, 0 ≤ s.hour ∧ s.hour.toNat < l.length := fun s hm => by have := s1 s hm; omega
              have h108 := f107 seen 108 [.ptr [.sl (hourRows l)] 0] (fun s => insideB s.sky (hourAt l s.hour)) (fun s hm => f108 s l (hrange s hm)) (by omega)
              change Fn _ _ _ (.bool (agreesB seen l)) at h108
              repeat (first | refine walkL_seq ?_ | refine walkL_skip ?_ | refine walkL_block ?_ | (refine walkL_region fun K hK => ?_; simp (maxSteps := 4000000) only [go_sem, g1]; refine hK _ ?_; clear hK K) | refine walkL_nil ?_ | refine walkL_ret ?_ | refine walkL_exit ?_ | refine blockA_here ?_ | refine blockA_other rfl ?_ | refine blockA_ret ?_ | refine blockA_normal ?_ | refine thenA_ret ?_ | refine thenA_exit ?_ | refine thenA_normal ?_)
              refine walkL_region fun K hK => ?_
              simp (maxSteps := 4000000) only [go_sem, g1]
              refine ⟨_, .lentS (hdst := rfl) (hf := h81) (hd := rfl) (hr := by first | exact rowsFlat_int _ | exact rowsFlat_hour _ | exact rowsFlat_sight _ | exact rowsFlat_sky _ | exact rowsFlat_span _ | exact rowsFlat_bool _) (hfr := rfl), ?_⟩
              simp (maxSteps := 4000000) only [go_sem]
              refine hK _ ?_
              clear hK K
              have hn1 : (numsOf (possFrom seen (F.take i) 0)).length + 1 ≤ 549755813888 := by simp [numsOf]; omega
              have hn2 : (scensOf (possFrom seen (F.take i) 0)).length + 1 ≤ 549755813888 := by simp [scensOf]; omega
              repeat (first | refine walkL_seq ?_ | refine walkL_skip ?_ | refine walkL_block ?_ | (refine walkL_region fun K hK => ?_; simp (maxSteps := 4000000) only [go_sem]; (repeat (first | (refine ⟨_, .lent (hf := h108) (hd := rfl) (hr := rfl), ?_⟩; simp (maxSteps := 4000000) only [go_sem]) | (refine ⟨_, .given (hf := h108) (hd := rfl) (ha := rfl), ?_⟩; simp (maxSteps := 4000000) only [go_sem]))); refine hK _ ?_; clear hK K) | refine walkL_nil ?_ | refine walkL_ret ?_ | refine walkL_exit ?_ | refine blockA_here ?_ | refine blockA_other rfl ?_ | refine blockA_ret ?_ | refine blockA_normal ?_ | refine thenA_ret ?_ | refine thenA_exit ?_ | refine thenA_normal ?_)
              refine walkL_cond rfl (fun hc => ?_) (fun hc => ?_)
              · rw [if_pos hc] at hp
                repeat (first | refine walkL_seq ?_ | refine walkL_skip ?_ | refine walkL_block ?_ | (refine walkL_region fun K hK => ?_; simp (maxSteps := 4000000) only [go_sem]; refine hK _ ?_; clear hK K) | refine walkL_nil ?_ | refine walkL_ret ?_ | refine walkL_exit ?_ | refine blockA_here ?_ | refine blockA_other rfl ?_ | refine blockA_ret ?_ | refine blockA_normal ?_ | refine thenA_ret ?_ | refine thenA_exit ?_ | refine thenA_normal ?_)
                refine walkL_loopS (fun (k : Nat) => [(56, .d (.i k))]) (fun k => [(50, some (.arr 133 6 (hourRows (seenHours (seen.take k) l))))]) (fun k => k ≤ seen.length) (fun k => seen.length - k) 0 ?_ (Nat.zero_le _) ?_
                · simp (maxSteps := 4000000) only [go_sem]
                  refine weak_of [] ?_ ?_ rfl rfl <;> simp [lessT, lessM, lessB, AV.less]
                  first | done | rfl
                · intro k hk
                  simp (maxSteps := 4000000) only [go_sem]
                  repeat (first | refine walkL_seq ?_ | refine walkL_skip ?_ | refine walkL_block ?_ | (refine walkL_region fun K hK => ?_; simp (maxSteps := 4000000) only [go_sem]; refine hK _ ?_; clear hK K) | refine walkL_nil ?_ | refine walkL_ret ?_ | refine walkL_exit ?_ | refine blockA_here ?_ | refine blockA_other rfl ?_ | refine blockA_ret ?_ | refine blockA_normal ?_ | refine thenA_ret ?_ | refine thenA_exit ?_ | refine thenA_normal ?_)
                  refine walkL_cond rfl (fun hb => ?_) (fun hb => ?_)
                  · have hlt2 : k < seen.length := by simpa using hb
                    have hw2 : IntKind.i64.wrap ((k : Int) + 1) = ((k + 1 : Nat) : Int) := by rw [wr_small (by omega)]; simp
                    obtain ⟨s, hsk⟩ : ∃ s, seen[k]? = some s := ⟨_, List.getElem?_eq_getElem hlt2⟩
                    have gs := sightRows_at hsk
                    have hr := hrange s (List.mem_of_getElem? hsk)
                    have hlk := seenHours_len (seen.take k) l
                    have gr := hourRows_at (hourAt_get (l := seenHours (seen.take k) l) (i := s.hour) ⟨hr.1, by rw [hlk]; exact hr.2⟩)
                    have hnx : seenHours (seen.take (k + 1)) l = (seenHours (seen.take k) l).set s.hour.toNat (pointH s.sky) := foldl_take_succ _ _ _ _ _ hsk
                    have h111 := f110 s.sky
                    rw [Sky.row] at h111
                    repeat (first | refine walkL_seq ?_ | refine walkL_skip ?_ | refine walkL_block ?_ | (refine walkL_region fun K hK => ?_; simp (maxSteps := 4000000) only [go_sem, gs, Sight.row]; refine hK _ ?_; clear hK K) | refine walkL_nil ?_ | refine walkL_ret ?_ | refine walkL_exit ?_ | refine blockA_here ?_ | refine blockA_other rfl ?_ | refine blockA_ret ?_ | refine blockA_normal ?_ | refine thenA_ret ?_ | refine thenA_exit ?_ | refine thenA_normal ?_)
                    refine walkL_drawn (by kernel_rfl) (by kernel_rfl) fun K hK => ?_
                    simp (maxSteps := 4000000) only [go_sem, gs, Sight.row, hlk, hr.1, hr.2, gr, Hour.row]
                    refine ⟨_, .fn (hf := h111) (hd := rfl) (hr := .inl rfl), ?_⟩
                    simp (maxSteps := 4000000) only [go_sem, gr, hlk, hr.1, hr.2, Hour.row, pointH]
                    refine ⟨by kernel_rfl, hK _ ?_⟩
                    clear hK K
                    repeat (first | refine walkL_seq ?_ | refine walkL_skip ?_ | refine walkL_block ?_ | (refine walkL_region fun K hK => ?_; simp (maxSteps := 4000000) only [go_sem, hw2]; refine hK _ ?_; clear hK K) | refine walkL_nil ?_ | refine walkL_ret ?_ | refine walkL_exit ?_ | refine blockA_here ?_ | refine blockA_other rfl ?_ | refine blockA_ret ?_ | refine blockA_normal ?_ | refine thenA_ret ?_ | refine thenA_exit ?_ | refine thenA_normal ?_)
                    refine ⟨rfl, k + 1, ?_, hlt2, by omega⟩
                    rw [hnx, ← hourRows_set]
                    refine weak_of [] ?_ ?_ rfl rfl <;> simp [lessT, lessM, lessB, AV.less]
                    first | done | rfl
                  · have he : k = seen.length := by (have : ¬ k < seen.length := by simpa using hb); omega
                    subst he
                    rw [List.take_length]
                    repeat (first | refine walkL_seq ?_ | refine walkL_skip ?_ | refine walkL_block ?_ | (refine walkL_region fun K hK => ?_; simp (maxSteps := 4000000) only [go_sem, hn1, hn2]; refine hK _ ?_; clear hK K) | refine walkL_nil ?_ | refine walkL_ret ?_ | refine walkL_exit ?_ | refine blockA_here ?_ | refine blockA_other rfl ?_ | refine blockA_ret ?_ | refine blockA_normal ?_ | refine thenA_ret ?_ | refine thenA_exit ?_ | refine thenA_normal ?_)
                    refine walkL_release [50] ?_
                    simp (maxSteps := 4000000) only [go_sem]
                    refine walkL_drawnA (by kernel_rfl) (by kernel_rfl) fun K hK => ?_
                    simp (maxSteps := 4000000) only [go_sem, hn1, hn2]
                    refine ⟨by kernel_rfl, hK _ ?_⟩
                    clear hK K
                    repeat (first | refine walkL_seq ?_ | refine walkL_skip ?_ | refine walkL_block ?_ | (refine walkL_region fun K hK => ?_; simp (maxSteps := 4000000) only [go_sem, hw]; refine hK _ ?_; clear hK K) | refine walkL_nil ?_ | refine walkL_ret ?_ | refine walkL_exit ?_ | refine blockA_here ?_ | refine blockA_other rfl ?_ | refine blockA_ret ?_ | refine blockA_normal ?_ | refine thenA_ret ?_ | refine thenA_exit ?_ | refine thenA_normal ?_)
                    refine ⟨rfl, i + 1, ?_, hlt, by omega⟩
                    rw [hp, nums_push, scens_push]
                    refine weak_of [] ?_ ?_ rfl rfl <;> simp [lessT, lessM, lessB, AV.less]
                    all_goals first | done | rfl | exact ⟨rfl, rfl⟩
              · rw [if_neg (by rw [hc]; simp), List.append_nil] at hp
                repeat (first | refine walkL_seq ?_ | refine walkL_skip ?_ | refine walkL_block ?_ | (refine walkL_region fun K hK => ?_; simp (maxSteps := 4000000) only [go_sem, hw]; refine hK _ ?_; clear hK K) | refine walkL_nil ?_ | refine walkL_ret ?_ | refine walkL_exit ?_ | refine blockA_here ?_ | refine blockA_other rfl ?_ | refine blockA_ret ?_ | refine blockA_normal ?_ | refine thenA_ret ?_ | refine thenA_exit ?_ | refine thenA_normal ?_)
                refine ⟨rfl, i + 1, ?_, hlt, by omega⟩
                rw [hp]
                refine weak_of [] ?_ ?_ rfl rfl <;> simp [lessT, lessM, lessB, AV.less]
            · have he : i = F.length := by (have : ¬ i < F.length := by simpa using hb); omega
              subst he
              rw [List.take_length]
              repeat (first | refine walkL_seq ?_ | refine walkL_skip ?_ | refine walkL_block ?_ | (refine walkL_region fun K hK => ?_; simp (maxSteps := 4000000) only [go_sem, nums_len]; refine hK _ ?_; clear hK K) | refine walkL_nil ?_ | refine walkL_ret ?_ | refine walkL_exit ?_ | refine blockA_here ?_ | refine blockA_other rfl ?_ | refine blockA_ret ?_ | refine blockA_normal ?_ | refine thenA_ret ?_ | refine thenA_exit ?_ | refine thenA_normal ?_)
              cases hp : possL F seen with
              | nil =>
                have e : lookF F seen 0 true = 3 := by simp [lookF, hbad, ← hH0, hsi, hp]
                rw [e, if_neg (by decide)]
                have hp' : possFrom seen F 0 = [] := hp
                rw [hp']
                refine walkL_true rfl ?_
                repeat (first | refine walkL_seq ?_ | refine walkL_skip ?_ | refine walkL_block ?_ | (refine walkL_region fun K hK => ?_; simp (maxSteps := 4000000) only [go_sem]; refine hK _ ?_; clear hK K) | refine walkL_nil ?_ | refine walkL_ret ?_ | refine walkL_exit ?_ | refine blockA_here ?_ | refine blockA_other rfl ?_ | refine blockA_ret ?_ | refine blockA_normal ?_ | refine thenA_ret ?_ | refine thenA_exit ?_ | refine thenA_normal ?_)
                simp (maxSteps := 4000000) only [go_sem]
              | cons y ys =>
                have e : lookF F seen 0 true = 0 := by simp [lookF, hbad, ← hH0, hsi, hp]
                rw [e, if_pos rfl, lookV, hp, ← hH0]
                have hp' : possFrom seen F 0 = y :: ys := hp
                rw [hp']
                have hz : ((((y :: ys).length : Nat) : Int) == 0) = false := by simp; omega
                simp (maxSteps := 4000000) only [go_sem, hz]
                refine walkL_false rfl ?_
                repeat (first | refine walkL_seq ?_ | refine walkL_skip ?_ | refine walkL_block ?_ | (refine walkL_region fun K hK => ?_; simp (maxSteps := 4000000) only [go_sem]; refine hK _ ?_; clear hK K) | refine walkL_nil ?_ | refine walkL_ret ?_ | refine walkL_exit ?_ | refine blockA_here ?_ | refine blockA_other rfl ?_ | refine blockA_ret ?_ | refine blockA_normal ?_ | refine thenA_ret ?_ | refine thenA_exit ?_ | refine thenA_normal ?_)
                simp (maxSteps := 4000000) only [go_sem]
      · have e : lookF F seen err told = err := by simp [lookF, hbad, ← hH0, hsi, herr]
        rw [e, if_neg herr]
        have hne : (err != 0) = true := by simpa using herr
        simp (maxSteps := 4000000) only [go_sem, hne]
        refine walkL_true rfl ?_
        repeat (first | refine walkL_seq ?_ | refine walkL_skip ?_ | refine walkL_block ?_ | (refine walkL_region fun K hK => ?_; simp (maxSteps := 4000000) only [go_sem]; refine hK _ ?_; clear hK K) | refine walkL_nil ?_ | refine walkL_ret ?_ | refine walkL_exit ?_ | refine blockA_here ?_ | refine blockA_other rfl ?_ | refine blockA_ret ?_ | refine blockA_normal ?_ | refine thenA_ret ?_ | refine thenA_exit ?_ | refine thenA_normal ?_)
        refine walkL_drawn (by kernel_rfl) (by kernel_rfl) fun K hK => ?_
        simp (maxSteps := 4000000) only [go_sem]
        refine ⟨by kernel_rfl, hK _ ?_⟩
        clear hK K
        repeat (first | refine walkL_seq ?_ | refine walkL_skip ?_ | refine walkL_block ?_ | (refine walkL_region fun K hK => ?_; simp (maxSteps := 4000000) only [go_sem]; refine hK _ ?_; clear hK K) | refine walkL_nil ?_ | refine walkL_ret ?_ | refine walkL_exit ?_ | refine blockA_here ?_ | refine blockA_other rfl ?_ | refine blockA_ret ?_ | refine blockA_normal ?_ | refine thenA_ret ?_ | refine thenA_exit ?_ | refine thenA_normal ?_)
        simp (maxSteps := 4000000) only [go_sem]
end Go.Ab
namespace Go.Ab
open Go.RowKit Go.Proofs
set_option maxHeartbeats 4000000
set_option maxRecDepth 20000
attribute [local irreducible] WalkL Walk
def listRows (l : List (List Int)) : List (List DV) := l.map fun x => [.sl (intRows x)]
theorem listRows_len (l : List (List Int)) : (listRows l).length = l.length := by simp [listRows]
theorem listRows_head (l : List (List Int)) : headIs 1 (listRows l) = true := by cases l <;> rfl
attribute [go_sem] listRows_len listRows_head
end Go.Ab
namespace Go.Ab
open Go.RowKit Go.Proofs
set_option maxHeartbeats 8000000
set_option maxRecDepth 20000
attribute [local irreducible] WalkL Walk
theorem poss_get {seen : List Sight} : ∀ (F : List (List Hour)) (j i : Nat) (k : Nat) (l' : List Hour), (possFrom seen F j)[i]? = some (k, l') → ∃ l, j ≤ k ∧ F[k - j]? = some l ∧ l' = seenHours seen l ∧ agreesB seen l = true
  | [], _, _, _, _, h => by simp [possFrom] at h
  | l :: F, j, i, k, l', h => by
    rw [possFrom] at h
    have rest : ∀ i : Nat, (possFrom seen F (j + 1))[i]? = some (k, l') → ∃ l2, j ≤ k ∧ (l :: F)[k - j]? = some l2 ∧ l' = seenHours seen l2 ∧ agreesB seen l2 = true := by
      intro i h
      obtain ⟨l2, h1, h2, h3, h4⟩ := poss_get F (j + 1) i k l' h
      refine ⟨l2, by omega, ?_, h3, h4⟩
      rw [show k - j = (k - (j + 1)) + 1 by omega, List.getElem?_cons_succ]
      exact h2
    split at h
    · rename_i ha
      cases i with
      | zero => simp at h; obtain ⟨rfl, rfl⟩ := h; exact ⟨l, Nat.le_refl _, by simp, rfl, ha⟩
      | succ i => exact rest i (by simpa using h)
    · exact rest i h
end Go.Ab
namespace Go.Ab
open Go.RowKit Go.Proofs
set_option maxHeartbeats 8000000
set_option maxRecDepth 20000
attribute [local irreducible] WalkL Walk
def noSky : Sky := ⟨0, 0, 0⟩
def skyAt (l : List Sky) (i : Nat) : Sky := l.getD i noSky
theorem skyAt_get {l : List Sky} {i : Nat} (h : i < l.length) : l[i]? = some (skyAt l i) := by
  unfold skyAt
  rw [List.getD, List.getElem?_eq_getElem h]
  rfl
end Go.Ab
