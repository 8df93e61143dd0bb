/- A walk engine over abstract states, and the contracts of the functions that the statement reaches: part 3. -/
import Derived.Test.YtfkbbaagifpjpaaWb
import Derived.Test.YtfkbbaagifpjpaaProg
set_option linter.unusedVariables false
set_option linter.unusedSimpArgs false
set_option linter.unnecessarySimpa false
/- Drawn regions in which something is appended: what named the array before is forgotten. -/
namespace Go.Ab
open Go.RowKit
def AV.whole:AV→Bool
 | .undef=>false
 | .agg cs | .tup cs | .fn _ cs=>AV.wholes cs
 | _=>true
where AV.wholes:List AV→Bool
 | []=>true
 | x::xs=>x.whole && AV.wholes xs
def AV.lose (n:Nat) (x:AV):AV:=x.sub n fun _=>.undef
mutual
theorem lose_same (n:Nat):∀ (x:AV),n ∉ x.refs→x.sub n (fun _=>.undef)=x
 | .box k o,h=>by simp only [AV.refs,List.mem_singleton] at h;simp only [AV.sub];rw [if_neg (fun e=>h e.symm)]
 | .elem k i o,h=>by simp only [AV.refs,List.mem_singleton] at h;simp only [AV.sub];rw [if_neg (fun e=>h e.symm)]
 | .own k,h=>by simp only [AV.refs,List.mem_singleton] at h;simp only [AV.sub];rw [if_neg (fun e=>h e.symm)]
 | .view k o l,h=>by simp only [AV.refs,List.mem_singleton] at h;simp only [AV.sub];rw [if_neg (fun e=>h e.symm)]
 | .bsl k o l,h=>by simp only [AV.refs,List.mem_singleton] at h;simp only [AV.sub];rw [if_neg (fun e=>h e.symm)]
 | .mp k,h=>by simp only [AV.refs,List.mem_singleton] at h;simp only [AV.sub];rw [if_neg (fun e=>h e.symm)]
 | .vh k l,h=>by simp only [AV.refs,List.mem_singleton] at h;simp only [AV.sub];rw [if_neg (fun e=>h e.symm)]
 | .vc k l,h=>by simp only [AV.refs,List.mem_singleton] at h;simp only [AV.sub];rw [if_neg (fun e=>h e.symm)]
 | .agg cs,h=>by simp only [AV.sub];rw [z114 n cs (by simpa [AV.refs] using h)]
 | .tup cs,h=>by simp only [AV.sub];rw [z114 n cs (by simpa [AV.refs] using h)]
 | .fn f cs,h=>by simp only [AV.sub];rw [z114 n cs (by simpa [AV.refs] using h)]
 | .undef,_=>rfl
 | .void,_=>rfl
 | .d _,_=>rfl
 | .nil,_=>rfl
 | .dfull _,_=>rfl
theorem z114 (n:Nat):∀ (l:List AV),n ∉ AV.refs.AV.refss l→AV.sub.AV.subs n (fun _=>.undef) l=l
 | [],_=>rfl
 | x::xs,h=>by
  simp only [AV.refs.AV.refss,List.mem_append,not_or] at h
  simp only [AV.sub.AV.subs]
  rw [lose_same n x h.1,z114 n xs h.2]
end
mutual
theorem z437 (n:Nat):∀ (x:AV),(x.sub n (fun _=>.undef)).whole=true→n ∉ x.refs
 | .box k o,h=>by
  simp only [AV.sub] at h
  split at h
  ·simp [AV.whole] at h
  ·rename_i hk;simp only [AV.refs,List.mem_singleton];exact fun e=>hk e.symm
 | .elem k i o,h=>by
  simp only [AV.sub] at h
  split at h
  ·simp [AV.whole] at h
  ·rename_i hk;simp only [AV.refs,List.mem_singleton];exact fun e=>hk e.symm
 | .own k,h=>by
  simp only [AV.sub] at h
  split at h
  ·simp [AV.whole] at h
  ·rename_i hk;simp only [AV.refs,List.mem_singleton];exact fun e=>hk e.symm
 | .view k o l,h=>by
  simp only [AV.sub] at h
  split at h
  ·simp [AV.whole] at h
  ·rename_i hk;simp only [AV.refs,List.mem_singleton];exact fun e=>hk e.symm
 | .bsl k o l,h=>by
  simp only [AV.sub] at h
  split at h
  ·simp [AV.whole] at h
  ·rename_i hk;simp only [AV.refs,List.mem_singleton];exact fun e=>hk e.symm
 | .mp k,h=>by
  simp only [AV.sub] at h
  split at h
  ·simp [AV.whole] at h
  ·rename_i hk;simp only [AV.refs,List.mem_singleton];exact fun e=>hk e.symm
 | .vh k l,h=>by
  simp only [AV.sub] at h
  split at h
  ·simp [AV.whole] at h
  ·rename_i hk;simp only [AV.refs,List.mem_singleton];exact fun e=>hk e.symm
 | .vc k l,h=>by
  simp only [AV.sub] at h
  split at h
  ·simp [AV.whole] at h
  ·rename_i hk;simp only [AV.refs,List.mem_singleton];exact fun e=>hk e.symm
 | .dfull _,_=>by simp [AV.refs]
 | .agg cs,h=>by simp only [AV.refs];exact z150 n cs (by simpa [AV.sub,AV.whole] using h)
 | .tup cs,h=>by simp only [AV.refs];exact z150 n cs (by simpa [AV.sub,AV.whole] using h)
 | .fn f cs,h=>by simp only [AV.refs];exact z150 n cs (by simpa [AV.sub,AV.whole] using h)
 | .undef,_=>by simp [AV.refs]
 | .void,_=>by simp [AV.refs]
 | .d _,_=>by simp [AV.refs]
 | .nil,_=>by simp [AV.refs]
theorem z150 (n:Nat):∀ (l:List AV),AV.whole.AV.wholes (AV.sub.AV.subs n (fun _=>.undef) l)=true→n ∉ AV.refs.AV.refss l
 | [],_=>by simp [AV.refs.AV.refss]
 | x::xs,h=>by
  simp only [AV.sub.AV.subs,AV.whole.AV.wholes,Bool.and_eq_true] at h
  simp only [AV.refs.AV.refss,List.mem_append,not_or]
  exact ⟨z437 n x h.1,z150 n xs h.2⟩
end
mutual
theorem z515 (n:Nat) (f:AV→AV):∀ (x:AV),n ∉ x.refs→x.sub n f=x
 | .box k o,h=>by simp only [AV.refs,List.mem_singleton] at h;simp only [AV.sub];rw [if_neg (fun e=>h e.symm)]
 | .elem k i o,h=>by simp only [AV.refs,List.mem_singleton] at h;simp only [AV.sub];rw [if_neg (fun e=>h e.symm)]
 | .own k,h=>by simp only [AV.refs,List.mem_singleton] at h;simp only [AV.sub];rw [if_neg (fun e=>h e.symm)]
 | .view k o l,h=>by simp only [AV.refs,List.mem_singleton] at h;simp only [AV.sub];rw [if_neg (fun e=>h e.symm)]
 | .bsl k o l,h=>by simp only [AV.refs,List.mem_singleton] at h;simp only [AV.sub];rw [if_neg (fun e=>h e.symm)]
 | .mp k,h=>by simp only [AV.refs,List.mem_singleton] at h;simp only [AV.sub];rw [if_neg (fun e=>h e.symm)]
 | .vh k l,h=>by simp only [AV.refs,List.mem_singleton] at h;simp only [AV.sub];rw [if_neg (fun e=>h e.symm)]
 | .vc k l,h=>by simp only [AV.refs,List.mem_singleton] at h;simp only [AV.sub];rw [if_neg (fun e=>h e.symm)]
 | .agg cs,h=>by simp only [AV.sub];rw [z100 n f cs (by simpa [AV.refs] using h)]
 | .tup cs,h=>by simp only [AV.sub];rw [z100 n f cs (by simpa [AV.refs] using h)]
 | .fn g cs,h=>by simp only [AV.sub];rw [z100 n f cs (by simpa [AV.refs] using h)]
 | .undef,_=>rfl
 | .void,_=>rfl
 | .d _,_=>rfl
 | .nil,_=>rfl
 | .dfull _,_=>rfl
theorem z100 (n:Nat) (f:AV→AV):∀ (l:List AV),n ∉ AV.refs.AV.refss l→AV.sub.AV.subs n f l=l
 | [],_=>rfl
 | x::xs,h=>by
  simp only [AV.refs.AV.refss,List.mem_append,not_or] at h
  simp only [AV.sub.AV.subs]
  rw [z515 n f x h.1,z100 n f xs h.2]
end
mutual
theorem z651 (n:Nat):∀ (x:AV),n ∉ (x.sub n (fun _=>.undef)).refs
 | .box k o=>by simp only [AV.sub];split <;> simp_all [AV.refs,eq_comm]
 | .elem k i o=>by simp only [AV.sub];split <;> simp_all [AV.refs,eq_comm]
 | .own k=>by simp only [AV.sub];split <;> simp_all [AV.refs,eq_comm]
 | .view k o l=>by simp only [AV.sub];split <;> simp_all [AV.refs,eq_comm]
 | .bsl k o l=>by simp only [AV.sub];split <;> simp_all [AV.refs,eq_comm]
 | .mp k=>by simp only [AV.sub];split <;> simp_all [AV.refs,eq_comm]
 | .vh k l=>by simp only [AV.sub];split <;> simp_all [AV.refs,eq_comm]
 | .vc k l=>by simp only [AV.sub];split <;> simp_all [AV.refs,eq_comm]
 | .dfull _=>by simp [AV.sub,AV.refs]
 | .agg cs=>by simp only [AV.sub,AV.refs];exact z115 n cs
 | .tup cs=>by simp only [AV.sub,AV.refs];exact z115 n cs
 | .fn g cs=>by simp only [AV.sub,AV.refs];exact z115 n cs
 | .undef=>by simp [AV.sub,AV.refs]
 | .void=>by simp [AV.sub,AV.refs]
 | .d _=>by simp [AV.sub,AV.refs]
 | .nil=>by simp [AV.sub,AV.refs]
theorem z115 (n:Nat):∀ (l:List AV),n ∉ AV.refs.AV.refss (AV.sub.AV.subs n (fun _=>.undef) l)
 | []=>by simp [AV.sub.AV.subs,AV.refs.AV.refss]
 | x::xs=>by
  simp only [AV.sub.AV.subs,AV.refs.AV.refss,List.mem_append,not_or]
  exact ⟨z651 n x,z115 n xs⟩
end
theorem StRel.rename0 {P:Program} {base out:Own} {st:St} {μ:Pl} {tmps:Array Value} {w:World} (h:StRel P base out st μ tmps w) {n:Nat} (hn:μ n=none) (hl:n<st.m.length) (e z:Nat) :
  ∃ μ',StRel P base out { t:=st.t,m:=st.m.set n (some (.arr e z [])) } μ' tmps w∧∀ b,ownOf out μ' b→ownOf out μ b:=by
 have hown:∀ b,ownOf out (μ.upd n (some .none0)) b→ownOf out μ b:=by
  rintro b (hb | ⟨k,z,l,c,hb⟩)
  ·exact .inl hb
  ·by_cases hk:k=n
   ·subst hk;rw [Pl.upd_same] at hb;cases hb
   ·rw [Pl.upd_ne μ _ hk] at hb;exact .inr ⟨k,z,l,c,hb⟩
 have hg:Goes w (ownOf out μ) w (ownOf out (μ.upd n (some .none0))):=fun b o v h1 h2=>⟨fun hc=>h1 (hown b hc),h2⟩
 have hμ:∀ k,(μ k).isSome→μ.upd n (some .none0) k=μ k:=fun k hk=>Pl.upd_ne μ _ (fun e=>by subst e;rw [hn] at hk;cases hk)
 refine ⟨μ.upd n (some .none0),⟨h.size,fun i x v h1 h2=>(h.tmp i x v h1 h2).goes hg (fun n _ hs=>hμ n hs),⟨fun k b hk=>?_,fun k hk=>?_,fun k q b z l c z' l' c' h1 h2=>?_,fun k b z l c hb=>?_⟩,h.hid.less hown,h.out,h.le⟩,hown⟩
 ·rw [List.getElem?_set] at hk
  by_cases hkn:n=k
  ·subst hkn
   rw [if_pos rfl,if_pos hl] at hk
   cases hk
   exact .inl ⟨Pl.upd_same μ n _,rfl⟩
  ·rw [if_neg hkn] at hk
   exact (h.mem.blk k b hk).goes hg (Pl.upd_ne μ _ (Ne.symm hkn)) hμ (fun _ _ _ _ _=>rfl)
 ·rw [List.getElem?_set]
  by_cases hkn:n=k
  ·subst hkn;exact ⟨.arr e z [],by rw [if_pos rfl,if_pos hl]⟩
  ·rw [if_neg hkn]
   rw [Pl.upd_ne μ _ (Ne.symm hkn)] at hk
   exact h.mem.dom k hk
 ·by_cases hk:k=n
  ·subst hk;rw [Pl.upd_same] at h1;cases h1
  ·by_cases hq:q=n
   ·subst hq;rw [Pl.upd_same] at h2;cases h2
   ·rw [Pl.upd_ne μ _ hk] at h1
    rw [Pl.upd_ne μ _ hq] at h2
    exact h.mem.inj k q b z l c z' l' c' h1 h2
 ·by_cases hk:k=n
  ·subst hk;rw [Pl.upd_same] at hb;cases hb
  ·rw [Pl.upd_ne μ _ hk] at hb
   exact h.mem.base k b z l c hb
def killT:Option Nat→List AV→List AV
 | none,t=>t
 | some n,t=>t.map (AV.sub n fun _=>.undef)
def killM:Option Nat→List (Option Blk)→List (Option Blk)
 | none,m=>m
 | some n,m=>subMem n (fun _=>.undef) m
def St.applyA (st:St) (dst:Option Tmp) (e:Eff) (k:Option Nat):St:=({ t:=killT k st.t,m:=killM k st.m }:St).apply dst e
def appOf (P:Program) (st:St) (dst:Option Tmp) (t t':TypeId) (s x:AV):Option (Eff × Option Nat):=if t'=t then match dst,tslice P t with
 | some d,some e=>match tsz P e,tbytes P e,(tzero P e).map (·.cells.size),elemsOf st x with
  | some z,some by_,some zl,some xs=>if zl=z∧0<z∧0<by_∧by_≤2 ^ 7∧headIs z xs then (match s with
    | .nil=>match st.fresh d with
     | true=>if xs.length≤2 ^ 39 then some (⟨.own d,some (d,.arr e z xs)⟩,none) else none
     | _=>none
    | .own n=>match st.m[n]? with
     | some (some (.arr e' z' rows))=>if e'=e∧z'=z∧rows.length + xs.length≤2 ^ 39 then some (⟨.own n,some (n,.arr e z (rows++xs))⟩,some n) else none
     | _=>none
    | .vc n len=>match st.m[n]? with
     | some (some (.arrP e' z' rows))=>if e'=e∧z'=z∧rows.length=len∧xs.length=1 then some (⟨.vh n (len + 1),some (n,.arrP e z (rows++xs))⟩,none) else none
     | _=>none
    | .dfull rows=>match st.fresh d with
     | true=>if rows.length + xs.length≤2 ^ 39∧0<rows.length∧0<xs.length∧headIs z rows then some (⟨.own d,some (d,.arr e z (rows++xs))⟩,none) else none
     | _=>none
    | _=>none) else none
  | _,_,_,_=>none
 | _,_=>none else none
def refsRows:List (List AV)→List Nat
 | []=>[]
 | r::l=>AV.refs.AV.refss r++refsRows l
def Blk.names:Blk→List Nat
 | .box row=>AV.refs.AV.refss row
 | .arrA _ _ rows=>refsRows rows
 | _=>[]
def boxTab:List (Option Blk)→Nat→List (Nat × List Nat)
 | [],_=>[]
 | some (.box row)::l,i=>(i,AV.refs.AV.refss row)::boxTab l (i + 1)
 | none::l,i=>boxTab l (i + 1)
 | some (.arr ..)::l,i=>boxTab l (i + 1)
 | some (.mp ..)::l,i=>boxTab l (i + 1)
 | some (.arrP ..)::l,i=>boxTab l (i + 1)
 | some (.arrA _ _ rows)::l,i=>(i,refsRows rows)::boxTab l (i + 1)
inductive EffA (P:Program) (o:Oper) (st:St):Eff→Option Nat→Prop where
 | old (e:Eff) (h:EffR P o st e):EffA P o st e none
 | app (t t':TypeId) (s x:Operand) (e:Eff) (k:Option Nat) (ho:o.op=.call { callee:=.builtin .append,args:=#[s,x],argTypes:=#[t,t'] })
   (h:appOf P st o.dst t t' (st.ev s) (st.ev x)=some (e,k)):EffA P o st e k
 | appR (t t':TypeId) (s x:Operand) (d n:Nat) (el z:Nat) (rows:List (List DV)) (hd:o.dst=some d) (hl:n<st.m.length) (hdl:d<st.t.length) (ho:o.op=.call { callee:=.builtin .append,args:=#[s,x],argTypes:=#[t,t'] })
   (h:appOf P st o.dst t t' (st.ev s) (st.ev x)=some (⟨.own n,some (n,.arr el z rows)⟩,some n)):EffA P o st ⟨.d (.sl rows),some (n,.arr el z [])⟩ (some n)
 | litD (d:Nat) (e z:Nat) (rows:List (List DV)) (t:TypeId) (len:Nat) (parts:Array (Nat × Operand)) (ho:o.op=.buildSlice t len parts) (hd:o.dst=some d) (hf:st.fresh d=true) (hdl:d<st.t.length)
   (h:opBuildSlice P st t len (parts.toList.map fun p=>(p.1,st.ev p.2))=some (.arr e z rows)) (hr:AV.refsAll (parts.toList.map fun p=>st.ev p.2)=[]):EffA P o st ⟨.d (.sl rows),none⟩ none
theorem z94:∀ (m:List (Option Blk)) (i j:Nat) (b:Blk) (n:Nat),m[j]?=some (some b)→n ∈ b.names→(i + j,b.names) ∈ boxTab m i
 | [],_,_,_,_,h,_=>by simp at h
 | none::l,i,j,b,n,h,hn=>by
  cases j with
  | zero=>simp at h
  | succ j=>simp only [boxTab];rw [show i + (j + 1)=i + 1 + j by omega];exact z94 l (i + 1) j b n (by simpa using h) hn
 | some (.arr _ _ _)::l,i,j,b,n,h,hn=>by
  cases j with
  | zero=>simp at h;subst h;cases hn
  | succ j=>simp only [boxTab];rw [show i + (j + 1)=i + 1 + j by omega];exact z94 l (i + 1) j b n (by simpa using h) hn
 | some (.arrP _ _ _)::l,i,j,b,n,h,hn=>by
  cases j with
  | zero=>simp at h;subst h;cases hn
  | succ j=>simp only [boxTab];rw [show i + (j + 1)=i + 1 + j by omega];exact z94 l (i + 1) j b n (by simpa using h) hn
 | some (.mp _ _ _)::l,i,j,b,n,h,hn=>by
  cases j with
  | zero=>simp at h;subst h;cases hn
  | succ j=>simp only [boxTab];rw [show i + (j + 1)=i + 1 + j by omega];exact z94 l (i + 1) j b n (by simpa using h) hn
 | some (.box r)::l,i,j,b,n,h,hn=>by
  cases j with
  | zero=>simp at h;subst h;simp [boxTab,Blk.names]
  | succ j=>simp only [boxTab,List.mem_cons];rw [show i + (j + 1)=i + 1 + j by omega];exact .inr (z94 l (i + 1) j b n (by simpa using h) hn)
 | some (.arrA _ _ r)::l,i,j,b,n,h,hn=>by
  cases j with
  | zero=>simp at h;subst h;simp [boxTab,Blk.names]
  | succ j=>simp only [boxTab,List.mem_cons];rw [show i + (j + 1)=i + 1 + j by omega];exact .inr (z94 l (i + 1) j b n (by simpa using h) hn)
mutual
theorem z1101 (n:Nat):∀ (x:AV),∀ k ∈ (x.sub n (fun _=>.undef)).refs,k ∈ x.refs
 | .box k o,q,h=>by simp only [AV.sub] at h;split at h <;> simp_all [AV.refs]
 | .elem k i o,q,h=>by simp only [AV.sub] at h;split at h <;> simp_all [AV.refs]
 | .own k,q,h=>by simp only [AV.sub] at h;split at h <;> simp_all [AV.refs]
 | .view k o l,q,h=>by simp only [AV.sub] at h;split at h <;> simp_all [AV.refs]
 | .bsl k o l,q,h=>by simp only [AV.sub] at h;split at h <;> simp_all [AV.refs]
 | .mp k,q,h=>by simp only [AV.sub] at h;split at h <;> simp_all [AV.refs]
 | .vh k l,q,h=>by simp only [AV.sub] at h;split at h <;> simp_all [AV.refs]
 | .vc k l,q,h=>by simp only [AV.sub] at h;split at h <;> simp_all [AV.refs]
 | .agg cs,q,h=>by simp only [AV.sub,AV.refs] at h ⊢;exact z135 n cs q h
 | .tup cs,q,h=>by simp only [AV.sub,AV.refs] at h ⊢;exact z135 n cs q h
 | .fn f cs,q,h=>by simp only [AV.sub,AV.refs] at h ⊢;exact z135 n cs q h
 | .undef,_,h=>h
 | .void,_,h=>h
 | .d _,_,h=>h
 | .nil,_,h=>h
 | .dfull _,_,h=>h
theorem z135 (n:Nat):∀ (l:List AV),∀ k ∈ AV.refs.AV.refss (AV.sub.AV.subs n (fun _=>.undef) l),k ∈ AV.refs.AV.refss l
 | [],_,h=>h
 | x::xs,q,h=>by
  simp only [AV.sub.AV.subs,AV.refs.AV.refss,List.mem_append] at h ⊢
  rcases h with h | h
  ·exact .inl (z1101 n x q h)
  ·exact .inr (z135 n xs q h)
end
theorem z102 {rows:List (List AV)} {n:Nat}:n ∈ refsRows rows↔∃ r ∈ rows,n ∈ AV.refs.AV.refss r:=by
 induction rows with
 | nil=>simp [refsRows]
 | cons r l ih=>simp [refsRows,ih]
theorem Blk.lose_same {n:Nat} {b:Blk} (h:n ∉ b.names):b.sub n (fun _=>.undef)=b:=by
 cases b with
 | box row=>simp only [Blk.sub];rw [← AV.subs_eq,z114 n row h]
 | arr=>rfl
 | mp=>rfl
 | arrP=>rfl
 | arrA e z rows =>
  simp only [Blk.sub]
  congr 1
  exact (List.map_congr_left fun r hr=>by rw [← AV.subs_eq,z114 n r (fun hc=>h (z102.2 ⟨r,hr,hc⟩))];rfl).trans (List.map_id rows)
theorem Blk.sub_names {n k:Nat} {b:Blk} (h:k ∈ (b.sub n (fun _=>.undef)).names):k ∈ b.names:=by
 cases b with
 | box row=>simp only [Blk.sub,Blk.names] at h ⊢;rw [← AV.subs_eq] at h;exact z135 n row k h
 | arr=>cases h
 | mp=>cases h
 | arrP=>cases h
 | arrA e z rows =>
  simp only [Blk.sub,Blk.names] at h ⊢
  obtain ⟨r,hr,hk⟩:=z102.1 h
  obtain ⟨r0,hr0,rfl⟩:=List.mem_map.1 hr
  rw [← AV.subs_eq] at hk
  exact z102.2 ⟨r0,hr0,z135 n r0 k hk⟩
theorem z1107 {k:Option Nat} {m:List (Option Blk)} {q:Nat} (h:∀ n b,k=some n→m[q]?=some (some b)→n ∉ b.names):(killM k m)[q]?=m[q]?:=by
 cases k with
 | none=>rfl
 | some n =>
  simp only [killM,z30]
  cases hm:m[q]? with
  | none=>rfl
  | some ob =>
   cases ob with
   | none=>rfl
   | some b=>simp only [Option.map_some];rw [Blk.lose_same (h n b rfl hm)]
theorem z935 {n:Nat} {m:List (Option Blk)} {q:Nat} {b:Blk} (h:n ∉ b.names):subMem n (fun _=>.undef) (m.set q (some b))=(subMem n (fun _=>.undef) m).set q (some b):=by
 apply List.ext_getElem?
 intro i
 have hl:(subMem n (fun _=>AV.undef) m).length=m.length:=by
  have:∀ m:List (Option Blk),(subMem n (fun _=>AV.undef) m).length=m.length:=by
   intro m
   induction m with
   | nil=>rfl
   | cons x xs ih=>cases x <;> simp [subMem,ih]
  exact this m
 rw [z30,List.getElem?_set,List.getElem?_set,z30,hl]
 by_cases hq:q=i
 ·subst hq
  rw [if_pos rfl,if_pos rfl]
  split
  ·simp only [Option.map_some];rw [Blk.lose_same h]
  ·rfl
 ·rw [if_neg hq,if_neg hq]
section
variable {P:Program} {ops:Array Oper} {o:Oper} {s st:St}
theorem z470 {t t':TypeId} {s x:Operand} {e:Eff} {k:Option Nat} (ho:o.op=.call { callee:=.builtin .append,args:=#[s,x],argTypes:=#[t,t'] })
  (h:appOf P st o.dst t t' (st.ev s) (st.ev x)=some (e,k)):stepOp P o st=some (st.applyA o.dst e k):=by
 unfold stepOp
 rw [ho]
 simp only [List.map_cons,List.map_nil]
 unfold appOf at h
 unfold opAppend
 split at h
 ·rename_i htt
  rw [if_pos htt]
  split at h
  ·rename_i d e' hd he
   rw [hd,he]
   simp only
   split at h
   ·rename_i z by_ zl xs h1 h2 h3 h4
    rw [h1,h2,h3,h4]
    simp only
    split at h
    ·rename_i hc
     rw [if_pos hc]
     split at h
     ·rename_i hs
      rw [hs]
      simp only
      split at h
      ·rename_i hfr
       rw [hfr]
       simp only
       split at h
       ·rename_i hl
        rw [if_pos hl]
        cases h
        rfl
       ·cases h
      ·cases h
     ·rename_i n hs
      rw [hs]
      simp only
      split at h
      ·rename_i e2 z2 rows hm
       rw [hm]
       simp only
       split at h
       ·rename_i hl
        rw [if_pos hl]
        cases h
        rfl
       ·cases h
      ·cases h
     ·rename_i n len hs
      rw [hs]
      simp only
      split at h
      ·rename_i e2 z2 rows hm
       rw [hm]
       simp only
       split at h
       ·rename_i hl
        rw [if_pos hl]
        cases h
        rfl
       ·cases h
      ·cases h
     ·rename_i rows hs
      rw [hs]
      simp only
      split at h
      ·rename_i hfr
       rw [hfr]
       simp only
       split at h
       ·rename_i hl
        rw [if_pos hl]
        cases h
        rfl
       ·cases h
      ·cases h
     ·cases h
    ·cases h
   ·cases h
  ·cases h
 ·cases h
theorem EffA.step {e:Eff} {k:Option Nat} (h:EffA P o st e k):StepR P o st (st.applyA o.dst e k):=by
 cases h with
 | old e h=>exact h.step
 | app t t' s x _ _ ho h=>exact .inr (.inl ⟨by simp [isCall,ho],z470 ho h⟩)
 | appR t t' s x d n el z rows hd hl hdl ho h =>
  refine .inr (.inr ⟨by simp [isCall,ho],_,z470 ho h,fun base out μ tmps w μ1 tmps1 w1 _ h1=>?_⟩)
  have hn1:(st.applyA o.dst ⟨.own n,some (n,.arr el z rows)⟩ (some n)).m[n]?=some (some (.arr el z rows)):=by
   have:(killM (some n) st.m).length=st.m.length:=by
    have:∀ m:List (Option Blk),(subMem n (fun _=>AV.undef) m).length=m.length:=by
     intro m
     induction m with
     | nil=>rfl
     | cons x xs ih=>cases x <;> simp [subMem,ih]
    exact this _
   simp only [St.applyA,St.apply]
   rw [List.getElem?_set_self (by rw [this];exact hl)]
  obtain ⟨μ2,h2,_,hless,hgone⟩:=h1.release n
  obtain ⟨μ3,h3,hless3⟩:=h2.rename0 (hgone ⟨_,hn1⟩) (by
   have:=(List.getElem?_eq_some_iff.1 hn1).1
   unfold St.release
   rw [hn1]
   have e:∀ (f:AV→AV) (m:List (Option Blk)),(subMem n f m).length=m.length:=by
    intro f m
    induction m with
    | nil=>rfl
    | cons x xs ih=>cases x <;> simp [subMem,ih]
   simp only [e,List.length_set]
   exact this) el z
  refine ⟨μ3,?_,fun b hb=>hless b (hless3 b hb)⟩
  have key:({ t:=((st.applyA o.dst ⟨.own n,some (n,.arr el z rows)⟩ (some n)).release n).t,m:=((st.applyA o.dst ⟨.own n,some (n,.arr el z rows)⟩ (some n)).release n).m.set n (some (.arr el z [])) }:St)=st.applyA o.dst ⟨.d (.sl rows),some (n,.arr el z [])⟩ (some n):=by
   have e1:(st.applyA o.dst ⟨.own n,some (n,.arr el z rows)⟩ (some n)).release n={ t:=(st.applyA o.dst ⟨.own n,some (n,.arr el z rows)⟩ (some n)).t.map (AV.sub n (snapLeaf (.arr el z rows))),m:=subMem n (snapLeaf (.arr el z rows)) ((st.applyA o.dst ⟨.own n,some (n,.arr el z rows)⟩ (some n)).m.set n none) }:=by
    unfold St.release
    rw [hn1]
   rw [e1]
   have ht:(st.applyA o.dst ⟨.own n,some (n,.arr el z rows)⟩ (some n)).t.map (AV.sub n (snapLeaf (.arr el z rows)))=(st.applyA o.dst ⟨.d (.sl rows),some (n,.arr el z [])⟩ (some n)).t:=by
    rw [hd]
    simp only [St.applyA,St.apply,St.put,killT,List.map_set,List.map_map]
    have:(AV.sub n (snapLeaf (.arr el z rows)) ∘ AV.sub n fun _=>AV.undef)=AV.sub n fun _=>AV.undef:=funext fun x=>z515 n _ _ (z651 n x)
    rw [this]
    simp [AV.sub,snapLeaf]
   have hm:(subMem n (snapLeaf (.arr el z rows)) ((st.applyA o.dst ⟨.own n,some (n,.arr el z rows)⟩ (some n)).m.set n none)).set n (some (.arr el z []))=(st.applyA o.dst ⟨.d (.sl rows),some (n,.arr el z [])⟩ (some n)).m:=by
    simp only [St.applyA,St.apply,killM,List.set_set]
    apply List.ext_getElem?
    intro i
    have hlen:∀ (f:AV→AV) (m:List (Option Blk)),(subMem n f m).length=m.length:=by
     intro f m
     induction m with
     | nil=>rfl
     | cons x xs ih=>cases x <;> simp [subMem,ih]
    rw [List.getElem?_set,List.getElem?_set,hlen,List.length_set]
    by_cases hi:n=i
    ·rw [if_pos hi,if_pos hi]
    ·rw [if_neg hi,if_neg hi,z30,List.getElem?_set_ne hi,z30]
     cases st.m[i]? with
     | none=>rfl
     | some ob =>
      cases ob with
      | none=>rfl
      | some b =>
       cases b with
       | box row =>
        simp only [Option.map_some,Blk.sub]
        rw [← AV.subs_eq,← AV.subs_eq,z100 n _ _ (z115 n row)]
       | arr=>rfl
       | mp=>rfl
       | arrP=>rfl
       | arrA e' z' rows' =>
        simp only [Option.map_some,Blk.sub,Option.some.injEq,Blk.arrA.injEq,true_and,List.map_map]
        exact List.map_congr_left fun r hr=>by simp only [Function.comp_def];rw [← AV.subs_eq,← AV.subs_eq,z100 n _ _ (z115 n r)]
   rw [ht,hm]
  rw [← key]
  exact h3
 | litD d e z rows t len parts ho hd hf hdl h hr =>
  have hst:stepOp P o st=some (st.addBlk d (.own d) (.arr e z rows)):=by
   have:=(EffR.lit (P:=P) d e z rows t len parts ho hd hf h hr)
   have hps:(parts.toList.map fun p=>(p.1,st.ev p.2)).map (·.2)=parts.toList.map fun p=>st.ev p.2:=by simp [Function.comp_def]
   unfold stepOp
   rw [ho]
   simp only [h,hd,Option.getD_some,hf,hps,hr]
   rfl
  refine .inr (.inr ⟨by simp [isCall,ho],_,hst,fun base out μ tmps w μ1 tmps1 w1 h0 h1=>?_⟩)
  have hfr:=z25 hf
  have hl:d<st.m.length:=(List.getElem?_eq_some_iff.1 hfr).1
  have hn1:(st.addBlk d (.own d) (.arr e z rows)).m[d]?=some (some (.arr e z rows)):=by simp only [St.addBlk];rw [List.getElem?_set_self hl]
  obtain ⟨μ2,h2,_,hless,hgone⟩:=h1.release d
  refine ⟨μ2,?_,hless⟩
  have hnp:=z122 h0.mem hfr
  have norefs:∀ (i:Nat) x,st.t[i]?=some x→d ∉ x.refs:=fun i x hx hc=>by
   have hi:i<tmps.size:=by rw [h0.size];exact (List.getElem?_eq_some_iff.1 hx).1
   have:=(h0.tmp i x tmps[i] hx (by simp [hi])).placed d hc
   rw [hnp] at this;cases this
  have norefm:∀ (i:Nat) b,st.m[i]?=some (some b)→d ∉ b.names:=fun i b hrow hc=>by
   have many:∀ (l:List AV),d ∈ AV.refs.AV.refss l→∃ (j:Nat) (x:AV),l[j]?=some x∧d ∈ x.refs:=by
    intro l
    induction l with
    | nil=>intro h;simp [AV.refs.AV.refss] at h
    | cons y ys ih =>
     intro h
     simp only [AV.refs.AV.refss,List.mem_append] at h
     rcases h with h | h
     ·exact ⟨0,y,rfl,h⟩
     ·obtain ⟨j,x,h1,h2⟩:=ih h;exact ⟨j + 1,x,by simpa using h1,h2⟩
   cases b with
   | arr=>cases hc
   | mp=>cases hc
   | arrP=>cases hc
   | box row =>
    obtain ⟨b,cs,ty,q1,q2,q3,q4⟩:=h0.mem.box hrow
    obtain ⟨j,x,hx,hdx⟩:=many row hc
    have hj:j<cs.size:=Nat.lt_of_lt_of_le (List.getElem?_eq_some_iff.1 hx).1 q3
    have:=(q4 j x cs[j] hx (by simp [hj])).2.placed d hdx
    rw [hnp] at this;cases this
   | arrA e' z' rows' =>
    obtain ⟨r,hr,hk⟩:=z102.1 hc
    obtain ⟨j,x,hx,hdx⟩:=many r hk
    obtain ⟨i',hi'⟩:=List.mem_iff_getElem?.1 hr
    rcases h0.mem.blk i _ hrow with ⟨_,rfl⟩ | ⟨b,cap,cs,q1,q2,q3,q4,q5,q6,q7⟩
    ·cases hr
    ·obtain ⟨v,_,_,hv⟩:=q7 i' r j x hi' hx
     have:=hv.placed d hdx
     rw [hnp] at this;cases this
  have key:(st.addBlk d (.own d) (.arr e z rows)).release d=st.applyA o.dst ⟨.d (.sl rows),none⟩ none:=by
   have e1:(st.addBlk d (.own d) (.arr e z rows)).release d={ t:=(st.addBlk d (.own d) (.arr e z rows)).t.map (AV.sub d (snapLeaf (.arr e z rows))),m:=subMem d (snapLeaf (.arr e z rows)) ((st.addBlk d (.own d) (.arr e z rows)).m.set d none) }:=by
    unfold St.release
    rw [hn1]
   rw [e1,hd]
   simp only [St.addBlk,St.applyA,St.apply,St.put,killT,killM,List.map_set,List.set_set]
   have ht:st.t.map (AV.sub d (snapLeaf (.arr e z rows)))=st.t:=by
    apply List.ext_getElem?
    intro i
    rw [List.getElem?_map]
    cases hx:st.t[i]? with
    | none=>rfl
    | some x=>simp only [Option.map_some];rw [z515 d _ x (norefs i x hx)]
   have hm:subMem d (snapLeaf (.arr e z rows)) (st.m.set d none)=st.m:=by
    apply List.ext_getElem?
    intro i
    rw [z30,List.getElem?_set]
    by_cases hi:d=i
    ·subst hi
     rw [if_pos rfl,if_pos hl,hfr]
     rfl
    ·rw [if_neg hi]
     cases hx:st.m[i]? with
     | none=>rfl
     | some ob =>
      cases ob with
      | none=>rfl
      | some b =>
       cases b with
       | box row=>simp only [Option.map_some,Blk.sub];rw [← AV.subs_eq,z100 d _ row (norefm i _ hx)]
       | arr=>rfl
       | mp=>rfl
       | arrP=>rfl
       | arrA e' z' rows' =>
        simp only [Option.map_some,Blk.sub,Option.some.injEq,Blk.arrA.injEq,true_and]
        exact (List.map_congr_left fun r hr=>by rw [← AV.subs_eq,z100 d _ r (fun hc=>norefm i _ hx (z102.2 ⟨r,hr,hc⟩))];rfl).trans (List.map_id rows')
   rw [ht,hm]
   simp [AV.sub,snapLeaf]
  rw [← key]
  exact h2
theorem z359 {s s':St} {dst:Option Tmp} {t t':TypeId} {a x:AV} (h:Agree (a.refs++x.refs++dst.toList) s.m s'.m):appOf P s dst t t' a x=appOf P s' dst t t' a x:=by
 unfold appOf
 rw [z107 (st':=s') (h.mono fun n hn=>by simp [hn])]
 cases dst with
 | none=>rfl
 | some d =>
  have hfr:=z124 (s:=s) (s':=s') (h d (by simp))
  cases a with
  | own n=>simp only [h n (by simp [AV.refs])]
  | vc n len=>simp only [h n (by simp [AV.refs])]
  | dfull rows =>
   split
   ·split
    ·rename_i hd _
     cases hd
     split
     ·split
      ·rw [hfr]
      ·rfl
     ·rfl
    ·rfl
   ·rfl
  | nil =>
   split
   ·split
    ·rename_i hd _
     cases hd
     split
     ·split
      ·rw [hfr]
      ·rfl
     ·rfl
    ·rfl
   ·rfl
  | _=>rfl
def EffGA (P:Program) (ops:Array Oper) (o:Oper) (s:St) (e:Eff) (k:Option Nat):Prop:=match guardT ops o with
 | none=>False
 | some none=>EffA P o s e k
 | some (some (t,want))=>(s.ev (.tmp t)=.d (.bool want)∧EffA P o s e k)∨((s.ev (.tmp t)=.d (.bool (!want))∨s.ev (.tmp t)=.void)∧e=⟨.void,none⟩∧k=none)
theorem EffGA.step {e:Eff} {k:Option Nat} (h:EffGA P ops o s e k):StepG P ops o s (s.applyA o.dst e k):=by
 unfold EffGA at h
 unfold StepG
 unfold guardT at h
 cases hg:o.guard with
 | none=>rw [hg] at h;exact h.step
 | some gw =>
  obtain ⟨j,want⟩:=gw
  rw [hg] at h
  simp only at h ⊢
  cases ht:(ops[j]?).bind (·.dst) with
  | none=>rw [ht] at h;exact h.elim
  | some t =>
   rw [ht] at h
   refine ⟨t,rfl,?_⟩
   rcases h with ⟨h1,h2⟩ | ⟨h1,rfl,rfl⟩
   ·exact .inl ⟨h1,h2.step⟩
   ·exact .inr ⟨h1,by cases o.dst <;> rfl⟩
structure RecA where
 i:Nat
 e:Eff
 k:Option Nat
 N:List Nat
 R:List Nat
 u:Bool
def boxE (e:Eff):List Nat:=match e.m with
 | some (_,b)=>b.names
 | _=>[]
structure LocalA (P:Program) (ops:Array Oper) (o:Oper) (s:St) (r:RecA):Prop where
 eff:EffGA P ops o s r.e r.k
 loc:∀ s':St,(∀ t ∈ o.looksAt ops,s.ev (.tmp t)=s'.ev (.tmp t))→s.t.length=s'.t.length→s.m.length=s'.m.length→Agree r.N s.m s'.m→EffGA P ops o s' r.e r.k
 look:∀ t ∈ o.looksAt ops,∀ n ∈ (s.ev (.tmp t)).refs,n ∈ r.R
 whole:r.u=true→∀ t ∈ o.looksAt ops,(s.ev (.tmp t)).whole=true
 val:∀ n ∈ r.e.v.refs,n ∈ r.R
inductive ChainA (P:Program) (ops:Array Oper):List RecA→St→St→Prop where
 | nil (s:St):ChainA P ops [] s s
 | cons {r:RecA} {rs:List RecA} {s s':St} {o:Oper} (ho:ops[r.i]?=some o) (hd:dstOk o=true) (h:LocalA P ops o s r) (ht:ChainA P ops rs (s.applyA o.dst r.e r.k) s'):ChainA P ops (r::rs) s s'
def missB (k:Option Nat) (R:List Nat):Bool:=match k with
 | none=>true
 | some n=>!R.contains n
abbrev KeyA:=Nat × List Nat × List Nat × Option Nat × List Nat × Bool × List Nat
def RecA.key (r:RecA):KeyA:=(r.i,r.e.name,r.N,r.k,r.R,r.u,boxE r.e)
def clearB (Bf:Nat→List Nat) (k:Option Nat) (b:KeyA):Bool:=match k with
 | none=>true
 | some n=>(Bf n).all fun q=>!(b.2.2.1.contains q || b.2.1.contains q)
def indepA (ops:Array Oper) (Bf:Nat→List Nat) (a b:KeyA):Bool:=indepB ops (a.1,a.2.1,a.2.2.1) (b.1,b.2.1,b.2.2.1) &&
 ((a.2.2.2.1.isNone || (b.2.2.2.2.2.1 && missB a.2.2.2.1 b.2.2.2.2.1)) && ((missB b.2.2.2.1 a.2.2.2.2.1 && (a.2.2.2.1.isNone || b.2.2.2.1.isNone)) && (clearB Bf a.2.2.2.1 b && clearB Bf b.2.2.2.1 a)))
theorem z358 {dst:Option Tmp} {e:Eff} {k:Option Nat} {t:Tmp} (h:dst≠some t) (hk:∀ n,k=some n→n ∉ (s.ev (.tmp t)).refs):(s.applyA dst e k).ev (.tmp t)=s.ev (.tmp t):=by
 unfold St.applyA
 rw [z299 h]
 cases k with
 | none=>rfl
 | some n =>
  have:=hk n rfl
  simp only [St.ev,killT,List.getD_eq_getElem?_getD,List.getElem?_map] at this ⊢
  cases hx:s.t[t]? with
  | none=>rfl
  | some x =>
   rw [hx] at this
   simp only [Option.map_some,Option.getD_some] at this ⊢
   exact lose_same n x this
theorem z1057 {dst:Option Tmp} {e:Eff} {k:Option Nat} {t:Tmp} (h:dst≠some t) (hw:((s.applyA dst e k).ev (.tmp t)).whole=true):(s.applyA dst e k).ev (.tmp t)=s.ev (.tmp t):=by
 refine z358 h fun n hk=>?_
 subst hk
 unfold St.applyA at hw
 rw [z299 h] at hw
 simp only [St.ev,killT,List.getD_eq_getElem?_getD,List.getElem?_map] at hw ⊢
 cases hx:s.t[t]? with
 | none=>simp [AV.refs]
 | some x =>
  rw [hx] at hw
  simp only [Option.map_some,Option.getD_some] at hw ⊢
  exact z437 n x hw
theorem z873 {dst:Option Tmp} {e:Eff} {k:Option Nat} {n:Nat} (h:n ∉ e.name) (hk:∀ q b,k=some q→s.m[n]?=some (some b)→q ∉ b.names):(s.applyA dst e k).m[n]?=s.m[n]?:=by
 unfold St.applyA
 rw [z844 h]
 exact z1107 hk
theorem z1102 {n:Nat} {v:AV} (hv:n ∉ v.refs) (t:List AV) (a:Nat):(t.set a v).map (AV.sub n fun _=>.undef)=(t.map (AV.sub n fun _=>.undef)).set a v:=by
 rw [List.map_set,lose_same n v hv]
theorem z845 {d d':Option Tmp} {e e':Eff} {k k':Option Nat} (hd:∀ t,d=some t→d'≠some t) (hn:∀ n ∈ e.name,n ∉ e'.name) (h1:∀ n,k=some n→n ∉ e'.v.refs∧n ∉ boxE e') (h2:∀ n,k'=some n→n ∉ e.v.refs∧n ∉ boxE e) (h3:k=none∨k'=none) :
  (s.applyA d e k).applyA d' e' k'=(s.applyA d' e' k').applyA d e k:=by
 have key:∀ (s:St) (d d':Option Tmp) (e e':Eff) (n:Nat),(∀ t,d=some t→d'≠some t)→(∀ n ∈ e.name,n ∉ e'.name)→n ∉ e'.v.refs→n ∉ boxE e'→(s.applyA d e (some n)).applyA d' e' none=(s.applyA d' e' none).applyA d e (some n):=by
  intro s d d' e e' n hd hn hv hb
  have e1:(s.applyA d e (some n)).applyA d' e' none=(({ t:=killT (some n) s.t,m:=killM (some n) s.m }:St).apply d e).apply d' e':=rfl
  have e2:(s.applyA d' e' none).applyA d e (some n)=(({ t:=killT (some n) s.t,m:=killM (some n) s.m }:St).apply d' e').apply d e:=by
   have:({ t:=killT (some n) (s.apply d' e').t,m:=killM (some n) (s.apply d' e').m }:St)=({ t:=killT (some n) s.t,m:=killM (some n) s.m }:St).apply d' e':=by
    have ht:killT (some n) (s.apply d' e').t=(({ t:=killT (some n) s.t,m:=killM (some n) s.m }:St).apply d' e').t:=by
     cases d' with
     | none=>rfl
     | some a =>
      simp only [St.apply,St.put,killT]
      rw [z1102 hv]
    have hm:killM (some n) (s.apply d' e').m=(({ t:=killT (some n) s.t,m:=killM (some n) s.m }:St).apply d' e').m:=by
     obtain ⟨v',m'⟩:=e'
     cases m' with
     | none=>rfl
     | some nb =>
      obtain ⟨q,b⟩:=nb
      simp only [St.apply,killM]
      exact z935 (by simpa [boxE] using hb)
    rw [ht,hm]
   show ({ t:=killT (some n) (s.apply d' e').t,m:=killM (some n) (s.apply d' e').m }:St).apply d e=_
   rw [this]
  rw [e1,e2]
  exact z272 hd hn
 cases k with
 | none =>
  cases k' with
  | none=>exact z272 hd hn
  | some n=>exact (key s d' d e' e n (fun t h h'=>hd t h' h) (fun a h h'=>hn a h' h) (h2 n rfl).1 (h2 n rfl).2).symm
 | some n =>
  cases k' with
  | none=>exact key s d d' e e' n hd hn (h1 n rfl).1 (h1 n rfl).2
  | some n'=>rcases h3 with h3 | h3 <;> cases h3
def InB (Bf:Nat→List Nat) (Ks:List Nat) (m:List (Option Blk)):Prop:=∀ n ∈ Ks,∀ (i:Nat) b,m[i]?=some (some b)→n ∈ b.names→i ∈ Bf n
def okRec (Bf:Nat→List Nat) (Ks:List Nat) (r:RecA):Prop:=(∀ n,r.k=some n→n ∈ Ks)∧∀ n ∈ boxE r.e,n ∈ Ks→∀ q ∈ r.e.name,q ∈ Bf n
theorem InB.apply {Bf:Nat→List Nat} {Ks:List Nat} (h:InB Bf Ks s.m) {dst:Option Tmp} {e:Eff} {k:Option Nat} (hb:∀ n ∈ boxE e,n ∈ Ks→∀ q ∈ e.name,q ∈ Bf n):InB Bf Ks (s.applyA dst e k).m:=by
 intro n hn i row h1 h2
 obtain ⟨v,m⟩:=e
 have old:(killM k s.m)[i]?=some (some row)→i ∈ Bf n:=by
  intro h3
  cases k with
  | none=>exact h n hn i row h3 h2
  | some q =>
   simp only [killM,z30,Option.map_eq_some_iff] at h3
   obtain ⟨ob,hob,b,hb1,hb2⟩:=h3
   subst hb1
   subst hb2
   exact h n hn i b hob (Blk.sub_names h2)
 cases m with
 | none=>exact old h1
 | some nb =>
  obtain ⟨q,b⟩:=nb
  simp only [St.applyA,St.apply] at h1
  rw [List.getElem?_set] at h1
  split at h1
  ·rename_i hqi
   split at h1
   ·cases h1
    exact hb n (by simpa [boxE] using h2) hn i (by simp [Eff.name,hqi])
   ·cases h1
  ·exact old h1
theorem z163 (s:St) (d:Option Tmp) (e:Eff) (k:Option Nat):(s.applyA d e k).t.length=s.t.length:=by
 cases d <;> cases k <;> simp [St.applyA,St.apply,St.put,killT]
theorem z164 (s:St) (d:Option Tmp) (e:Eff) (k:Option Nat):(s.applyA d e k).m.length=s.m.length:=by
 have h:∀ (f:AV→AV) (n:Nat) (m:List (Option Blk)),(subMem n f m).length=m.length:=by
  intro f n m
  induction m with
  | nil=>rfl
  | cons x xs ih=>cases x <;> simp [subMem,ih]
 have hk:(killM k s.m).length=s.m.length:=by cases k <;> simp [killM,h]
 obtain ⟨v,m⟩:=e
 cases m with
 | none=>exact hk
 | some nb=>simp [St.applyA,St.apply,hk]
theorem z1199 {Bf:Nat→List Nat} {Ks:List Nat} {a b:RecA} {s s':St} {rs:List RecA} (hi:indepA ops Bf a.key b.key=true) (hF:InB Bf Ks s.m) (ha:okRec Bf Ks a) (hb:okRec Bf Ks b) (h:ChainA P ops (a::b::rs) s s'):ChainA P ops (b::a::rs) s s':=by
 cases h with
 | cons ho hd h ht =>
 rename_i x
 cases ht with
 | cons ho' hd' h' ht =>
 rename_i y
 simp only [indepA,RecA.key,indepB,ho,ho',Bool.and_eq_true,List.all_eq_true,Bool.not_eq_true',Bool.or_eq_false_iff,List.contains_eq_mem,decide_eq_false_iff_not,Bool.or_eq_true,Option.isNone_iff_eq_none] at hi
 obtain ⟨⟨⟨h1,h2⟩,h3⟩,hk1,⟨hk2,hk3⟩,hc1,hc2⟩:=hi
 obtain ⟨a1,a2,a3⟩:=Oper.apart_spec h1
 have miss:∀ {k:Option Nat} {R:List Nat},missB k R=true→∀ n,k=some n→n ∉ R:=by
  intro k R hm n hk hn
  subst hk
  simp [missB,hn] at hm
 have clear:∀ {k:Option Nat} {r:RecA},clearB Bf k (r.i,r.e.name,r.N,r.k,r.R,r.u,boxE r.e)=true→∀ n,k=some n→∀ q ∈ Bf n,q ∉ r.N∧q ∉ r.e.name:=by
  intro k r hc n hk q hq
  subst hk
  simp only [clearB,List.all_eq_true,Bool.not_eq_true',Bool.or_eq_false_iff,List.contains_eq_mem,decide_eq_false_iff_not] at hc
  exact hc q hq
 have noBox:∀ {k:Option Nat} {r:RecA},okRec Bf Ks r→(∀ n,k=some n→n ∈ Ks)→clearB Bf k (r.i,r.e.name,r.N,r.k,r.R,r.u,boxE r.e)=true→∀ n,k=some n→n ∉ boxE r.e:=by
  intro k r hr hK hc n hk hn
  have:∃ q,q ∈ r.e.name:=by
   unfold boxE at hn
   split at hn
   ·rename_i q row hq;exact ⟨q,by simp [Eff.name,hq]⟩
   ·simp at hn
  obtain ⟨q,hq⟩:=this
  exact (clear hc n hk q (hr.2 n hn (hK n hk) q hq)).2 hq
 -- b first
 have hev1:∀ t ∈ y.looksAt ops,(s.applyA x.dst a.e a.k).ev (.tmp t)=s.ev (.tmp t):=by
  intro t ht
  rcases hk1 with hk | ⟨hu,_⟩
  ·exact z358 (fun hd=>a1 t hd ht) (fun n hn=>by rw [hk] at hn;cases hn)
  ·exact z1057 (fun hd=>a1 t hd ht) (h'.whole hu t ht)
 have hm1:Agree b.N (s.applyA x.dst a.e a.k).m s.m:=fun n hn=>z873 (fun hc=>(h2 n hc).1 hn) fun q row hk hrow hq=>(clear hc1 q hk n (hF q (ha.1 q hk) n row hrow hq)).1 hn
 have hbl:LocalA P ops y s b:=⟨h'.loc s hev1 (z163 ..) (z164 ..) hm1,fun s2 he2 htl2 hml2 ha2=>h'.loc s2 (fun t ht=>(hev1 t ht).trans (he2 t ht)) ((z163 ..).trans htl2) ((z164 ..).trans hml2) (fun n hn=>(hm1 n hn).trans (ha2 n hn)),
  fun t ht n hn=>h'.look t ht n (by rw [hev1 t ht];exact hn),fun hu t ht=>by rw [← hev1 t ht];exact h'.whole hu t ht,h'.val⟩
 -- then a
 have hev2:∀ t ∈ x.looksAt ops,s.ev (.tmp t)=(s.applyA y.dst b.e b.k).ev (.tmp t):=fun t ht=>(z358 (fun hd=>a3 t hd ht) (fun n hn hc=>miss hk2 n hn (h.look t ht n hc))).symm
 have hm2:Agree a.N s.m (s.applyA y.dst b.e b.k).m:=fun n hn=>(z873 (fun hc=>(h3 n hc).1 hn) fun q row hk hrow hq=>(clear hc2 q hk n (hF q (hb.1 q hk) n row hrow hq)).1 hn).symm
 have hal:LocalA P ops x (s.applyA y.dst b.e b.k) a:=⟨h.loc _ hev2 (z163 ..).symm (z164 ..).symm hm2,fun s2 he2 htl2 hml2 ha2=>h.loc s2 (fun t ht=>(hev2 t ht).trans (he2 t ht)) ((z163 ..).symm.trans htl2) ((z164 ..).symm.trans hml2) (fun n hn=>(hm2 n hn).trans (ha2 n hn)),
  fun t ht n hn=>h.look t ht n (by rw [hev2 t ht];exact hn),fun hu t ht=>by rw [← hev2 t ht];exact h.whole hu t ht,h.val⟩
 refine .cons ho' hd' hbl (.cons ho hd hal ?_)
 rw [← z845 (fun t hd hd2=>a2 t hd hd2) (fun n hn=>(h2 n hn).2) (fun n hn=>⟨fun hc=>?_,noBox hb ha.1 hc1 n hn⟩) (fun n hn=>⟨fun hc=>miss hk2 n hn (h.val n hc),noBox ha hb.1 hc2 n hn⟩) hk3]
 ·exact ht
 ·rcases hk1 with hk | ⟨_,hk⟩
  ·rw [hk] at hn;cases hn
  ·exact miss hk n hn (h'.val n hc)
theorem z1052 {Bf:Nat→List Nat} {Ks:List Nat} {r:RecA} {B:List RecA} {s':St} (hr:okRec Bf Ks r):∀ (A:List RecA) (s:St),InB Bf Ks s.m→(∀ a ∈ A,okRec Bf Ks a)→(∀ a ∈ A,indepA ops Bf a.key r.key=true)→ChainA P ops (A++r::B) s s'→ChainA P ops (r::(A++B)) s s'
 | [],_,_,_,_,h=>h
 | a::A,s,hF,hA,hi,h=>by
  cases h with
  | cons ho hd h ht =>
  have:=z1052 hr A _ (hF.apply (hA a (by simp)).2) (fun b hb=>hA b (by simp [hb])) (fun b hb=>hi b (by simp [hb])) ht
  exact z1199 (hi a (by simp)) hF (hA a (by simp)) hr (.cons ho hd h this)
def FreeChain (P:Program) (ops:Array Oper) (Bf:Nat→List Nat) (Ks:List Nat) (rs:List RecA) (s s':St):Prop:=InB Bf Ks s.m∧(∀ r ∈ rs,okRec Bf Ks r)∧ChainA P ops rs s s'
def pairsA (ops:Array Oper) (Bf:Nat→List Nat) (ms:List Nat):List KeyA→Bool
 | []=>true
 | a::l=>l.all (fun b=>(ms.getD b.1 0).testBit a.1 || indepA ops Bf a b) && pairsA ops Bf ms l
theorem z326 {Bf:Nat→List Nat} (hm:∀ k i,((masks ops.toList []).getD k 0).testBit i=true→Anc ops i k):∀ {rs:List RecA},pairsA ops Bf (masks ops.toList []) (rs.map RecA.key)=true→rs.Pairwise (fun a b=>Anc ops a.i b.i∨indepA ops Bf a.key b.key=true)
 | [],_=>.nil
 | a::rs,h=>by
  simp only [List.map_cons,pairsA,Bool.and_eq_true,List.all_eq_true,List.mem_map,forall_exists_index,and_imp,forall_apply_eq_imp_iff₂,Bool.or_eq_true] at h
  refine .cons (fun b hb=>?_) (z326 hm h.2)
  rcases h.1 b hb with h1 | h1
  ·exact .inl (hm _ _ h1)
  ·exact .inr h1
def inBoxes (B0:List (Nat × List Nat)) (acc:List KeyA) (n:Nat):List Nat:=(B0.flatMap fun p=>if p.2.contains n then [p.1] else [])++acc.flatMap fun b=>if b.2.2.2.2.2.2.contains n then b.2.1 else []
def killsOf (rs:List RecA):List Nat:=rs.filterMap (·.k)
theorem z657 (rs:List RecA):InB (inBoxes (boxTab s.m 0) (rs.map RecA.key)) (killsOf rs) s.m∧∀ r ∈ rs,okRec (inBoxes (boxTab s.m 0) (rs.map RecA.key)) (killsOf rs) r:=by
 refine ⟨fun n _ i row h1 h2=>?_,fun r hr=>⟨fun n hk=>List.mem_filterMap.2 ⟨r,hr,hk⟩,fun n hn _ q hq=>?_⟩⟩
 ·have:=z94 s.m 0 i row n h1 h2
  rw [Nat.zero_add] at this
  refine List.mem_append_left _ (List.mem_flatMap.2 ⟨_,this,?_⟩)
  simp [h2]
 ·refine List.mem_append_right _ (List.mem_flatMap.2 ⟨r.key,List.mem_map.2 ⟨r,hr,rfl⟩,?_⟩)
  simp [RecA.key,hn,hq]
end
def lookRefs (s:St) (ops:Array Oper) (o:Oper):List Nat:=(o.looksAt ops).flatMap fun t=>(s.ev (.tmp t)).refs
def lookWhole (s:St) (ops:Array Oper) (o:Oper):Bool:=(o.looksAt ops).all fun t=>(s.ev (.tmp t)).whole
def relB (rl:List Nat) (dst:Option Tmp):Bool:=match dst with
 | some d=>rl.contains d
 | none=>false
def relE (rl:List Nat) (dst:Option Tmp) (s:St) (r:Eff × Option Nat):Option (Eff × Option Nat):=if relB rl dst=true then (match r,dst with
  | (⟨.own n,some (n',.arr el z rows)⟩,some n''),some d=>match s.m[n]?,s.t[d]? with
   | some _,some _=>if n=n'∧n=n'' then some (⟨.d (.sl rows),some (n,.arr el z [])⟩,some n) else none
   | _,_=>none
  | _,_=>none) else some r
def effA (P:Program) (rl:List Nat) (o:Oper) (s:St) (C:Eff→Option Nat→List Nat→Prop):Prop:=match o.op with
 | .call { callee:=.builtin .append,args,argTypes }=>match argTypes.toList,args.toList with
  | [t,t'],[a,x]=>bindK (appOf P s o.dst t t' (s.ev a) (s.ev x)) fun r=>bindK (relE rl o.dst s r) fun r=>C r.1 r.2 ((s.ev a).refs++(s.ev x).refs++o.dst.toList)
  | _,_=>False
 | .buildSlice t len parts=>if relB rl o.dst=true then (bindK o.dst fun d=>bindK (opBuildSlice P s t len (parts.toList.map fun p=>(p.1,s.ev p.2))) fun b =>
   AV.refsAll (parts.toList.map fun p=>s.ev p.2)=[]∧s.fresh d=true∧match s.t[d]?,b with
    | some _,.arr _ _ rows=>C ⟨.d (.sl rows),none⟩ none [d]
    | _,_=>False) else effK P o s fun e N=>C e none N
 | _=>effK P o s fun e N=>C e none N
def guardRunA (P:Program) (rl:List Nat) (t:AV) (want:Bool) (o:Oper) (s:St) (R:Eff→Option Nat→List Nat→Prop):Prop:=∀ K':Eff→Option Nat→List Nat→Prop,(∀ e k N,R e k N→K' e k N)→guardK t want (effA P rl o s K') (K' ⟨.void,none⟩ none [])
def runA (P:Program) (rl:List Nat) (ops:Array Oper) (B0:List (Nat × List Nat)):List Oper→Nat→List KeyA→St→(St→Prop)→Prop
 | [],_,acc,s,K=>pairsA ops (inBoxes B0 acc.reverse) (masks ops.toList []) acc.reverse=true∧K s
 | o::os,i,acc,s,K=>dstOk o=true∧match guardT ops o with
  | none=>False
  | some none=>effA P rl o s fun e k N=>runA P rl ops B0 os (i + 1) ((i,e.name,N,k,lookRefs s ops o++e.v.refs,lookWhole s ops o,boxE e)::acc) (s.applyA o.dst e k) K
  | some (some (t,want))=>guardRunA P rl (s.ev (.tmp t)) want o s fun e k N=>runA P rl ops B0 os (i + 1) ((i,e.name,N,k,lookRefs s ops o++e.v.refs,lookWhole s ops o,boxE e)::acc) (s.applyA o.dst e k) K
section
variable {P:Program} {rd:Option Nat} {n:Nat} {J:Env} {k:Option Nat} {st:St} {ops:Array Oper} {Q:Exit→Option Nat→St→Prop} {o:Oper} {s:St}
theorem z688 {rl:List Nat} {C:Eff→Option Nat→List Nat→Prop} (h:effA P rl o s C):∃ e k N,(EffA P o s e k∧∀ s':St,(∀ x ∈ o.op.operands,s.ev x=s'.ev x)→s.t.length=s'.t.length→s.m.length=s'.m.length→Agree N s.m s'.m→EffA P o s' e k)∧C e k N:=by
 unfold effA at h
 split at h
 ·rename_i ho
  split at h
  ·rename_i hts hargs
   obtain ⟨⟨e,k⟩,h1,⟨e',k'⟩,hr,h3⟩:=h
   have e1:=z86 hts
   have e2:=z86 hargs
   subst e1;subst e2
   unfold relE at hr
   split at hr
   ·split at hr
    ·rename_i n n' el z rows n'' d hrr hdd
     split at hr
     ·rename_i y1 y2 hm ht
      split at hr
      ·rename_i hnn
       obtain ⟨rfl,rfl⟩:=hnn
       cases hrr
       cases hr
       have hl:=(List.getElem?_eq_some_iff.1 hm).1
       have hdl:=(List.getElem?_eq_some_iff.1 ht).1
       refine ⟨_,_,_,⟨.appR _ _ _ _ d n el z rows hdd hl hdl ho h1,fun s' he htl hml hag=>.appR _ _ _ _ d n el z rows hdd (by rw [← hml];exact hl) (by rw [← htl];exact hdl) ho ?_⟩,h3⟩
       rw [← he _ (by rw [ho];simp [Op.operands,Call.operands]),← he _ (by rw [ho];simp [Op.operands,Call.operands]),← z359 hag]
       exact h1
      ·cases hr
     ·cases hr
    ·cases hr
   ·cases hr
    refine ⟨e,k,_,⟨.app _ _ _ _ e k ho h1,fun s' he _ _ hag=>.app _ _ _ _ e k ho ?_⟩,h3⟩
    rw [← he _ (by rw [ho];simp [Op.operands,Call.operands]),← he _ (by rw [ho];simp [Op.operands,Call.operands]),← z359 hag]
    exact h1
  ·exact h.elim
 ·rename_i t len parts ho
  split at h
  ·obtain ⟨d,hd,b,hb,hr,hf,h⟩:=h
   split at h
   ·rename_i y e z rows ht
    have hdl:=(List.getElem?_eq_some_iff.1 ht).1
    refine ⟨_,_,_,⟨.litD d e z rows t len parts ho hd hf hdl hb hr,fun s' he htl _ hag=>?_⟩,h⟩
    have hev:∀ p ∈ parts.toList,s.ev p.2=s'.ev p.2:=fun p hp=>he p.2 (by rw [ho];simp only [Op.operands,List.mem_toArray,List.mem_map];exact ⟨p,hp,rfl⟩)
    have e1:(parts.toList.map fun p=>(p.1,s'.ev p.2))=parts.toList.map fun p=>(p.1,s.ev p.2):=List.map_congr_left fun p hp=>by rw [hev p hp]
    have e2:(parts.toList.map fun p=>s'.ev p.2)=parts.toList.map fun p=>s.ev p.2:=List.map_congr_left fun p hp=>by rw [hev p hp]
    have hps:(parts.toList.map fun p=>(p.1,s.ev p.2)).map (·.2)=parts.toList.map fun p=>s.ev p.2:=by simp [Function.comp_def]
    refine .litD d e z rows t len parts ho hd (by rw [← z124 (hag d (by simp))];exact hf) (by rw [← htl];exact hdl) ?_ (by rw [e2];exact hr)
    rw [e1,← hb]
    unfold opBuildSlice
    rw [hps,hr]
    simp only [z177 (s:=s') (s':=s) hr,St.arrs]
   ·exact h.elim
  ·obtain ⟨e,N,h1,h2⟩:=z241 h
   exact ⟨e,none,N,⟨.old e h1.1,fun s' he _ _ hag=>.old e (h1.2 s' he hag)⟩,h2⟩
 ·obtain ⟨e,N,h1,h2⟩:=z241 h
  exact ⟨e,none,N,⟨.old e h1.1,fun s' he _ _ hag=>.old e (h1.2 s' he hag)⟩,h2⟩
theorem z295 {e:Eff} {k:Option Nat} {N:List Nat} {i:Nat} (h1:EffGA P ops o s e k) (h2:∀ s':St,(∀ t ∈ o.looksAt ops,s.ev (.tmp t)=s'.ev (.tmp t))→s.t.length=s'.t.length→s.m.length=s'.m.length→Agree N s.m s'.m→EffGA P ops o s' e k) :
  LocalA P ops o s ⟨i,e,k,N,lookRefs s ops o++e.v.refs,lookWhole s ops o⟩ :=
 ⟨h1,h2,fun t ht n hn=>List.mem_append_left _ (by simp only [lookRefs,List.mem_flatMap];exact ⟨t,ht,hn⟩),fun hu t ht=>by simp only [lookWhole,List.all_eq_true] at hu;exact hu t ht,fun n hn=>List.mem_append_right _ hn⟩
theorem z253 {rl:List Nat} {B0:List (Nat × List Nat)}:∀ (os:List Oper) (i:Nat) (acc:List KeyA) (s:St) (K:St→Prop),(∀ j o,os[j]?=some o→ops[i + j]?=some o)→runA P rl ops B0 os i acc s K →
  ∃ rs s',ChainA P ops rs s s'∧rs.map (·.i)=List.range' i os.length∧pairsA ops (inBoxes B0 (acc.reverse++rs.map RecA.key)) (masks ops.toList []) (acc.reverse++rs.map RecA.key)=true∧K s'
 | [],i,acc,s,K,_,h=>⟨[],s,.nil s,rfl,by simpa using h.1,h.2⟩
 | o::os,i,acc,s,K,hos,h=>by
  obtain ⟨hd,h⟩:=h
  have hos':∀ j o',os[j]?=some o'→ops[i + 1 + j]?=some o':=fun j o' hj=>by have:=hos (j + 1) o' (by simpa using hj);rwa [show i + 1 + j=i + (j + 1) by omega]
  have ho:ops[i]?=some o:=by simpa using hos 0 o (by simp)
  have fin:∀ (e:Eff) (k:Option Nat) (N:List Nat),LocalA P ops o s ⟨i,e,k,N,lookRefs s ops o++e.v.refs,lookWhole s ops o⟩ →
    (∃ rs s',ChainA P ops rs (s.applyA o.dst e k) s'∧rs.map (·.i)=List.range' (i + 1) os.length∧pairsA ops (inBoxes B0 (((i,e.name,N,k,lookRefs s ops o++e.v.refs,lookWhole s ops o,boxE e)::acc).reverse++rs.map RecA.key)) (masks ops.toList []) (((i,e.name,N,k,lookRefs s ops o++e.v.refs,lookWhole s ops o,boxE e)::acc).reverse++rs.map RecA.key)=true∧K s') →
    ∃ rs s',ChainA P ops rs s s'∧rs.map (·.i)=List.range' i (o::os).length∧pairsA ops (inBoxes B0 (acc.reverse++rs.map RecA.key)) (masks ops.toList []) (acc.reverse++rs.map RecA.key)=true∧K s':=by
   rintro e k N hl ⟨rs,s',h1,h2,h3,h4⟩
   refine ⟨⟨i,e,k,N,lookRefs s ops o++e.v.refs,lookWhole s ops o⟩::rs,s',.cons ho hd hl h1,by simp [h2,List.range'_succ],?_,h4⟩
   simpa [RecA.key] using h3
  cases hg:guardT ops o with
  | none=>rw [hg] at h;exact h.elim
  | some g =>
   rw [hg] at h
   cases g with
   | none =>
    obtain ⟨e,k,N,⟨h1,h1'⟩,h2⟩:=z688 h
    refine fin e k N (z295 (by simp only [EffGA,hg];exact h1) fun s' he htl hml ha=>?_) (z253 os (i + 1) _ _ K hos' h2)
    simp only [EffGA,hg]
    exact h1' s' (z297 he) htl hml ha
   | some tw =>
    obtain ⟨t,want⟩:=tw
    obtain ⟨j,hj,ht⟩:=z91 hg
    have hmem:t ∈ o.looksAt ops:=List.mem_append_right _ (by rw [hj];simp [ht])
    have h:=h _ fun e k N hs=>z253 os (i + 1) _ _ K hos' hs
    unfold guardK at h
    split at h
    ·rename_i b hev
     by_cases hb:b=want
     ·obtain ⟨e,k,N,⟨h1,h1'⟩,h2⟩:=z688 (h.1 hb)
      refine fin e k N (z295 (by simp only [EffGA,hg];exact .inl ⟨by rw [hev,hb],h1⟩) fun s' he htl hml ha=>?_) h2
      simp only [EffGA,hg]
      exact .inl ⟨by rw [← he t hmem,hev,hb],h1' s' (z297 he) htl hml ha⟩
     ·have hb':b=!want:=by cases b <;> cases want <;> simp_all
      refine fin _ _ _ (z295 (by unfold EffGA;rw [hg];exact .inr ⟨.inl (by rw [hev,hb']),rfl,rfl⟩) fun s' he htl hml ha=>?_) (h.2 hb')
      unfold EffGA;rw [hg]
      exact .inr ⟨.inl (by rw [← he t hmem,hev,hb']),rfl,rfl⟩
    ·rename_i hev
     refine fin _ _ _ (z295 (by unfold EffGA;rw [hg];exact .inr ⟨.inr hev,rfl,rfl⟩) fun s' he htl hml ha=>?_) h
     unfold EffGA;rw [hg]
     exact .inr ⟨.inr (by rw [← he t hmem,hev]),rfl,rfl⟩
    ·exact h.elim
theorem z710 {rl:List Nat} {id:Nat} (hfol:P.follows .mixedOrders=true) (hback:backB ops=true) (h:runA P rl ops (boxTab st.m 0) ops.toList 0 [] st (Q .normal k)):Walk P rd n J (.region id ops true) k st Q:=fun B base out μ tmps w ds _ hst hJ hM=>by
 obtain ⟨rs,s',h1,h2,h3,h4⟩:=z253 _ _ _ _ _ (fun j o hj=>by simpa using hj) h
 simp only [List.reverse_nil,List.nil_append] at h3
 have hfree:=z657 (s:=st) rs
 refine z284 (ix:=RecA.i) (I:=fun a b=>indepA ops (inBoxes (boxTab st.m 0) (rs.map RecA.key)) a.key b.key=true) (C:=FreeChain P ops (inBoxes (boxTab st.m 0) (rs.map RecA.key)) (killsOf rs)) (fun s s' h=>by obtain ⟨_,_,h⟩:=h;cases h;rfl) ?_ ?_ hfol hback (by rw [h2,List.range_eq_range'];simp)
  (z326 (fun k i=>z113 ops.toList [] (fun k i hk=>by simp at hk) (fun k o hk=>by simpa using hk) k i) h3) ⟨hfree.1,hfree.2,h1⟩ hst fun tmps' μ' w' h5 hk hS=>.step hJ h5 hk hS hM h4
 ·rintro r rs' s s' ⟨hF,hR,hc⟩
  cases hc with
  | cons ho hd hl ht=>exact ⟨_,_,ho,hd,hl.eff.step,hF.apply (hR r (by simp)).2,fun q hq=>hR q (by simp [hq]),ht⟩
 ·rintro r B s s' A hA ⟨hF,hR,hc⟩
  refine ⟨hF,fun q hq=>hR q ?_,z1052 (hR r (by simp)) A s hF (fun a ha=>hR a (by simp [ha])) hA hc⟩
  simp only [List.mem_cons,List.mem_append] at hq ⊢
  rcases hq with rfl | hq | hq
  ·exact .inr (.inl rfl)
  ·exact .inl hq
  ·exact .inr (.inr hq)
theorem z560 {id:Nat} {cs:List Code} (rl:List Nat) (hfol:P.follows .mixedOrders=true) (hback:backB ops=true) (h:∀ K:St→Prop,(∀ s,WalkL P rd n J cs k s Q→K s)→runA P rl ops (boxTab st.m 0) ops.toList 0 [] st K):WalkL P rd n J (.region id ops true::cs) k st Q :=
 z710 hfol hback (h _ fun _ h=>h)
theorem z562 {id:Nat} {cs:List Code} (hfol:P.follows .mixedOrders=true) (hback:backB ops=true) (h:∀ K:St→Prop,(∀ s,WalkL P rd n J cs k s Q→K s)→runA P [] ops (boxTab st.m 0) ops.toList 0 [] st K):WalkL P rd n J (.region id ops true::cs) k st Q :=
 z560 [] hfol hback h
end
def oldA (C:Eff→Option Nat→List Nat→Prop) (e:Eff) (N:List Nat):Prop:=C e none N
theorem z1159 (P:Program) (rl:List Nat) (o:Oper) (s:St) (C:Eff→Option Nat→List Nat→Prop):effA P rl o s C=(match o.op with
 | .call { callee:=.builtin .append,args,argTypes }=>match argTypes.toList,args.toList with
  | [t,t'],[a,x]=>bindK (appOf P s o.dst t t' (s.ev a) (s.ev x)) fun r=>bindK (relE rl o.dst s r) fun r=>C r.1 r.2 ((s.ev a).refs++(s.ev x).refs++o.dst.toList)
  | _,_=>False
 | .buildSlice t len parts=>if relB rl o.dst=true then (bindK o.dst fun d=>bindK (opBuildSlice P s t len (parts.toList.map fun p=>(p.1,s.ev p.2))) fun b =>
   AV.refsAll (parts.toList.map fun p=>s.ev p.2)=[]∧s.fresh d=true∧match s.t[d]?,b with
    | some _,.arr _ _ rows=>C ⟨.d (.sl rows),none⟩ none [d]
    | _,_=>False) else effK P o s (oldA C)
 | _=>effK P o s (oldA C)):=rfl
theorem z689 {P:Program} {rl:List Nat} {o:Oper} {s:St} {C C':Eff→Option Nat→List Nat→Prop} (h:effA P rl o s C) (hC:∀ e k N,C e k N→C' e k N):effA P rl o s C':=by
 unfold effA at h ⊢
 split
 ·rename_i ho
  simp only [ho] at h
  split at h
  ·obtain ⟨r,h1,r',h2,h3⟩:=h
   exact ⟨r,h1,r',h2,hC _ _ _ h3⟩
  ·exact h.elim
 ·rename_i ho
  simp only [ho] at h
  split at h
  ·rename_i hr
   rw [if_pos hr]
   obtain ⟨d,hd,b,hb,h1,h2,h3⟩:=h
   refine ⟨d,hd,b,hb,h1,h2,?_⟩
   split at h3
   ·exact hC _ _ _ h3
   ·exact h3.elim
  ·rename_i hr
   rw [if_neg hr]
   exact z242 h fun e N hc=>hC _ _ _ hc
 ·rename_i hno hno2
  split at h
  ·rename_i ho;exact absurd ho (hno _ _)
  ·rename_i ho;exact absurd ho (hno2 _ _ _)
  ·exact z242 h fun e N hc=>hC _ _ _ hc
theorem z673 (P:Program) (rl:List Nat) (o:Oper) (s:St) (R:Eff→Option Nat→List Nat→Prop):guardRunA P rl (.d (.bool true)) true o s R=effA P rl o s R:=by
 apply propext
 exact ⟨fun h=>(h R (fun _ _ _ h=>h)).1 rfl,fun h K' hK=>⟨fun _=>z689 h hK,fun e=>(by cases e)⟩⟩
theorem z676 (P:Program) (rl:List Nat) (o:Oper) (s:St) (R:Eff→Option Nat→List Nat→Prop):guardRunA P rl (.d (.bool false)) false o s R=effA P rl o s R:=by
 apply propext
 exact ⟨fun h=>(h R (fun _ _ _ h=>h)).1 rfl,fun h K' hK=>⟨fun _=>z689 h hK,fun e=>(by cases e)⟩⟩
theorem z674 (P:Program) (rl:List Nat) (o:Oper) (s:St) (R:Eff→Option Nat→List Nat→Prop):guardRunA P rl (.d (.bool true)) false o s R=R ⟨.void,none⟩ none []:=by
 apply propext
 exact ⟨fun h=>(h R (fun _ _ _ h=>h)).2 rfl,fun h K' hK=>⟨fun e=>(by cases e),fun _=>hK _ _ _ h⟩⟩
theorem z675 (P:Program) (rl:List Nat) (o:Oper) (s:St) (R:Eff→Option Nat→List Nat→Prop):guardRunA P rl (.d (.bool false)) true o s R=R ⟨.void,none⟩ none []:=by
 apply propext
 exact ⟨fun h=>(h R (fun _ _ _ h=>h)).2 rfl,fun h K' hK=>⟨fun e=>(by cases e),fun _=>hK _ _ _ h⟩⟩
theorem z413 (P:Program) (rl:List Nat) (want:Bool) (o:Oper) (s:St) (R:Eff→Option Nat→List Nat→Prop):guardRunA P rl .void want o s R=R ⟨.void,none⟩ none []:=by
 apply propext
 exact ⟨fun h=>h R (fun _ _ _ h=>h),fun h K' hK=>hK _ _ _ h⟩
def contA (P:Program) (rl:List Nat) (ops:Array Oper) (B0:List (Nat × List Nat)) (os:List Oper) (i:Nat) (acc:List KeyA) (s:St) (o:Oper) (K:St→Prop) (e:Eff) (k:Option Nat) (N:List Nat):Prop :=
 runA P rl ops B0 os (i + 1) ((i,e.name,N,k,lookRefs s ops o++e.v.refs,lookWhole s ops o,boxE e)::acc) (s.applyA o.dst e k) K
theorem z1080 (P:Program) (rl:List Nat) (ops:Array Oper) (B0:List (Nat × List Nat)) (i:Nat) (acc:List KeyA) (s:St) (K:St→Prop):runA P rl ops B0 [] i acc s K=(pairsA ops (inBoxes B0 acc.reverse) (masks ops.toList []) acc.reverse=true∧K s):=rfl
theorem z1003 (P:Program) (rl:List Nat) (ops:Array Oper) (B0:List (Nat × List Nat)) (o:Oper) (os:List Oper) (i:Nat) (acc:List KeyA) (x:AV) (t:List AV) (m:List (Option Blk)) (K:St→Prop):runA P rl ops B0 (o::os) i acc ⟨x::t,m⟩ K=(dstOk o=true∧match guardT ops o with
  | none=>False
  | some none=>effA P rl o ⟨x::t,m⟩ (contA P rl ops B0 os i acc ⟨x::t,m⟩ o K)
  | some (some (t',want))=>guardRunA P rl ((⟨x::t,m⟩:St).ev (.tmp t')) want o ⟨x::t,m⟩ (contA P rl ops B0 os i acc ⟨x::t,m⟩ o K)):=rfl
theorem z954 (t:List AV):killT none t=t:=rfl
theorem z953 (n:Nat) (t:List AV):killT (some n) t=t.map (AV.sub n fun _=>.undef):=rfl
theorem z957 (m:List (Option Blk)):killM none m=m:=rfl
theorem z956 (n:Nat) (m:List (Option Blk)):killM (some n) m=subMem n (fun _=>.undef) m:=rfl
theorem z1083 (dst:Option Tmp) (s:St) (r:Eff × Option Nat):relE [] dst s r=some r:=by cases dst <;> rfl
theorem z1084 (dst:Option Tmp):relB [] dst=false:=by cases dst <;> rfl
theorem z1006 (rl:List Nat) (d:Tmp):relB rl (some d)=rl.contains d:=rfl
attribute [go_sem] z1083 z1084 z1006 relE List.contains_nil
attribute [go_sem] List.contains_cons z1080 z1003 contA oldA z1159 appOf boxTab z957 z956 St.applyA z954 z953 z673 z676 z674 z675 z413
theorem CallR.made {P:Program} {st:St} {dst:Option Tmp} {g:FuncId} {xs:List AV} {ds:List DV} {r:AV} {m1:List Blk} (news:List Nat) (hf:FnG P g [] [] (ds.map AV.d) r m1) (hd:reifyAll st xs=some ds) (hn:news.Nodup) (hl:news.length=m1.length)
  (hnew:news.all st.fresh=true) (hx:AV.refsAll xs=[]):CallR P st dst g xs (({ st with m:=putM news (m1.map (Blk.mapN fun i=>news[i]?)) st.m }:St).put dst (r.mapN fun i=>news[i]?)):=by
 obtain ⟨h1,h2⟩:=z23 hd
 have:=CallR.gen (dst:=dst) (st:=st) (xs:=xs) [] [] (ds.map AV.d) r m1 [] news [] [] hf (by simpa using hn) rfl (by simpa using hl) (by intro i b h;simp at h) (fun n hn=>z25 (List.all_eq_true.1 hnew n hn)) (by simpa using h1) (fun i x y hi hy=>by
  simp only [List.getElem?_map,Option.map_eq_some_iff] at hy
  obtain ⟨d,hy,rfl⟩:=hy
  have h3:=h2 i d hy
  simp only [List.getElem?_map,Option.map_eq_some_iff] at h3
  obtain ⟨x',hx',hr⟩:=h3
  rw [hi] at hx'
  cases hx'
  refine .inl ⟨d,rfl,hr,fun n hn=>?_⟩
  have:=z815 hx (List.mem_of_getElem? hi)
  rw [this] at hn
  cases hn) (by simp) (by intro n hn;simp at hn) (by intro i n h;simp at h) (.inl rfl)
 exact this
theorem z548 (l:List Nat) (st:St):Weak st (releaseAll l st):=by
 intro P base out μ tmps w h
 obtain ⟨μ',h1,_,_,h2,_⟩:=z50 l st μ h
 exact ⟨μ',h1,h2⟩
theorem z143 {P:Program} {rd:Option Nat} {n:Nat} {J:Env} {c:Code} {cs:List Code} {k:Option Nat} {st:St} {Q:Exit→Option Nat→St→Prop} (l:List Nat) (h:WalkL P rd n J (c::cs) k (releaseAll l st) Q):WalkL P rd n J (c::cs) k st Q :=
 z60 (z548 l st) h
theorem CallR.inPlace {P:Program} {st:St} {dst:Option Tmp} {g:FuncId} {xs:List AV} (n:Nat) {b0 b0' b1:Blk} {args:List AV} {r:AV} (hf:FnG P g [b0] [0] args r [b1]) (hn:st.m[n]?=some (some b0')) (hb:b0=b0'.mapN (inv [n])) (hla:xs.length=args.length)
  (ha:∀ (i:Nat) x y,xs[i]?=some x→args[i]?=some y→argG st [n] [] x y):CallR P st dst g xs (({ st with m:=st.m.set n (some (b1.mapN fun i=>[n][i]?)) }:St).put dst (r.mapN fun i=>[n][i]?)):=by
 have:=CallR.gen (dst:=dst) (st:=st) [b0] [0] args r [b1] [n] [] [] [] hf (by simp) rfl rfl (fun i b hi=>by
  cases i with
  | zero=>cases hi;exact ⟨n,b0',rfl,hn,hb⟩
  | succ i=>simp at hi) (by simp) hla ha (by simp) (by intro n hn;simp at hn) (fun i k hi _=>by
  cases i with
  | zero=>simp
  | succ i=>simp at hi) (.inl rfl)
 exact this
end Go.Ab
/- Arrays of which the room is asked: full,or with room behind;and arrays with room that settle. -/
namespace Go.Ab
open Go.RowKit
def roomed (len:Nat):AV→AV
 | .own n=>.vc n len
 | .view n off k=>.view n off k
 | .elem n i o=>.elem n i o
 | _=>.undef
def fulled (e:TypeId) (z:Nat) (rows:List (List DV)):AV→AV
 | .own _=>.dfull rows
 | y=>snapLeaf (.arr e z rows) y
def settled (len:Nat):AV→AV
 | .vh n k=>if k=len then .own n else .undef
 | .view n off k=>if off + k≤len then .view n off k else .undef
 | .elem n i o=>.elem n i o
 | _=>.undef
def St.roomed (n:Nat) (st:St):St:=match (st.m[n]?:Option (Option Blk)) with
 | some (some (.arr e z rows))=>{ t:=st.t.map (AV.sub n (Ab.roomed rows.length)),m:=(subMem n (Ab.roomed rows.length) st.m).set n (some (.arrP e z rows)) }
 | _=>st
def St.fulled (n:Nat) (st:St):St:=match (st.m[n]?:Option (Option Blk)) with
 | some (some (.arr e z rows))=>{ t:=st.t.map (AV.sub n (Ab.fulled e z rows)),m:=subMem n (Ab.fulled e z rows) (st.m.set n none) }
 | _=>st
def St.settle (n:Nat) (st:St):St:=match (st.m[n]?:Option (Option Blk)) with
 | some (some (.arrP e z rows))=>{ t:=st.t.map (AV.sub n (settled rows.length)),m:=(subMem n (settled rows.length) st.m).set n (some (.arr e z rows)) }
 | _=>st
section
variable {P:Program} {base:Own} {out:Own} {st st':St} {μ:Pl} {tmps:Array Value} {w w':World}
end
attribute [go_sem] St.roomed St.fulled St.settle roomed fulled settled opSlice3
end Go.Ab
/- The program's type table,as the engine asks for it. -/
namespace Go.Ab
open Go.RowKit Go.Proofs
theorem z992:tsz Try.prog 0=(some 1):=by kernel_rfl
theorem z600:tbytes Try.prog 0=(some 0):=by kernel_rfl
theorem z934:tagg Try.prog 0=(some false):=by kernel_rfl
theorem z991:tsz Try.prog 1=(some 1):=by kernel_rfl
theorem z599:tbytes Try.prog 1=(some 8):=by kernel_rfl
theorem z933:tagg Try.prog 1=(some false):=by kernel_rfl
theorem z990:tsz Try.prog 2=(some 1):=by kernel_rfl
theorem z598:tbytes Try.prog 2=(some 8):=by kernel_rfl
theorem z932:tagg Try.prog 2=(some false):=by kernel_rfl
theorem z921:tint Try.prog 2=(some IntKind.i64):=by kernel_rfl
theorem z989:tsz Try.prog 3=(some 1):=by kernel_rfl
theorem z597:tbytes Try.prog 3=(some 8):=by kernel_rfl
theorem z931:tagg Try.prog 3=(some false):=by kernel_rfl
theorem z920:tint Try.prog 3=(some IntKind.i64):=by kernel_rfl
theorem z988:tsz Try.prog 4=(some 1):=by kernel_rfl
theorem z596:tbytes Try.prog 4=(some 1):=by kernel_rfl
theorem z930:tagg Try.prog 4=(some false):=by kernel_rfl
theorem z987:tsz Try.prog 5=(some 1):=by kernel_rfl
theorem z595:tbytes Try.prog 5=(some 1):=by kernel_rfl
theorem z929:tagg Try.prog 5=(some false):=by kernel_rfl
theorem z919:tint Try.prog 5=(some IntKind.u8):=by kernel_rfl
theorem z986:tsz Try.prog 9=(some 1):=by kernel_rfl
theorem z594:tbytes Try.prog 9=(some 16):=by kernel_rfl
theorem z928:tagg Try.prog 9=(some false):=by kernel_rfl
theorem z918:tsz Try.prog 17=(some 1):=by kernel_rfl
theorem z514:tbytes Try.prog 17=(some 8):=by kernel_rfl
theorem z802:tagg Try.prog 17=(some false):=by kernel_rfl
theorem z917:tsz Try.prog 22=(some 1):=by kernel_rfl
theorem z513:tbytes Try.prog 22=(some 24):=by kernel_rfl
theorem z801:tagg Try.prog 22=(some false):=by kernel_rfl
theorem z482:tslice Try.prog 22=(some 56):=by kernel_rfl
theorem z916:tsz Try.prog 24=(some 2):=by kernel_rfl
theorem z512:tbytes Try.prog 24=(some 32):=by kernel_rfl
theorem z800:tagg Try.prog 24=(some true):=by kernel_rfl
theorem z375:tfields Try.prog 24=(some [(0,(1,false)),(1,(1,false))]):=by kernel_rfl
theorem z915:tsz Try.prog 26=(some 2):=by kernel_rfl
theorem z511:tbytes Try.prog 26=(some 16):=by kernel_rfl
theorem z799:tagg Try.prog 26=(some true):=by kernel_rfl
theorem z374:tfields Try.prog 26=(some [(0,(1,false)),(1,(1,false))]):=by kernel_rfl
theorem z927:teq Try.prog 26=(some [(0,false),(1,false)]):=by kernel_rfl
theorem z914:tsz Try.prog 28=(some 4):=by kernel_rfl
theorem z510:tbytes Try.prog 28=(some 32):=by kernel_rfl
theorem z798:tagg Try.prog 28=(some true):=by kernel_rfl
theorem z373:tfields Try.prog 28=(some [(0,(1,false)),(1,(1,false)),(2,(2,true))]):=by kernel_rfl
theorem z926:teq Try.prog 28=(some [(0,false),(1,false),(2,false),(3,false)]):=by kernel_rfl
theorem z913:tsz Try.prog 29=(some 1):=by kernel_rfl
theorem z509:tbytes Try.prog 29=(some 24):=by kernel_rfl
theorem z797:tagg Try.prog 29=(some false):=by kernel_rfl
theorem z481:tslice Try.prog 29=(some 64):=by kernel_rfl
theorem z912:tsz Try.prog 31=(some 9):=by kernel_rfl
theorem z508:tbytes Try.prog 31=(some 88):=by kernel_rfl
theorem z796:tagg Try.prog 31=(some true):=by kernel_rfl
theorem z372:tfields Try.prog 31=(some [(0,(4,true)),(4,(1,false)),(5,(1,false)),(6,(1,false)),(7,(1,false)),(8,(1,false))]):=by kernel_rfl
theorem z911:tsz Try.prog 32=(some 1):=by kernel_rfl
theorem z507:tbytes Try.prog 32=(some 24):=by kernel_rfl
theorem z795:tagg Try.prog 32=(some false):=by kernel_rfl
theorem z480:tslice Try.prog 32=(some 3):=by kernel_rfl
theorem z910:tsz Try.prog 34=(some 11):=by kernel_rfl
theorem z506:tbytes Try.prog 34=(some 120):=by kernel_rfl
theorem z794:tagg Try.prog 34=(some true):=by kernel_rfl
theorem z371:tfields Try.prog 34=(some [(0,(9,true)),(9,(1,false)),(10,(1,false))]):=by kernel_rfl
theorem z909:tsz Try.prog 36=(some 1):=by kernel_rfl
theorem z505:tbytes Try.prog 36=(some 8):=by kernel_rfl
theorem z793:tagg Try.prog 36=(some false):=by kernel_rfl
theorem z771:tint Try.prog 36=(some IntKind.i64):=by kernel_rfl
theorem z908:tsz Try.prog 40=(some 1):=by kernel_rfl
theorem z504:tbytes Try.prog 40=(some 0):=by kernel_rfl
theorem z792:tagg Try.prog 40=(some false):=by kernel_rfl
theorem z907:tsz Try.prog 41=(some 1):=by kernel_rfl
theorem z503:tbytes Try.prog 41=(some 8):=by kernel_rfl
theorem z791:tagg Try.prog 41=(some false):=by kernel_rfl
theorem z906:tsz Try.prog 42=(some 1):=by kernel_rfl
theorem z502:tbytes Try.prog 42=(some 8):=by kernel_rfl
theorem z790:tagg Try.prog 42=(some false):=by kernel_rfl
theorem z905:tsz Try.prog 52=(some 1):=by kernel_rfl
theorem z501:tbytes Try.prog 52=(some 8):=by kernel_rfl
theorem z789:tagg Try.prog 52=(some false):=by kernel_rfl
theorem z904:tsz Try.prog 54=(some 1):=by kernel_rfl
theorem z500:tbytes Try.prog 54=(some 24):=by kernel_rfl
theorem z788:tagg Try.prog 54=(some false):=by kernel_rfl
theorem z479:tslice Try.prog 54=(some 26):=by kernel_rfl
theorem z903:tsz Try.prog 56=(some 8):=by kernel_rfl
theorem z499:tbytes Try.prog 56=(some 80):=by kernel_rfl
theorem z787:tagg Try.prog 56=(some true):=by kernel_rfl
theorem z370:tfields Try.prog 56=(some [(0,(1,false)),(1,(1,false)),(2,(1,false)),(3,(2,true)),(5,(2,true)),(7,(1,false))]):=by kernel_rfl
theorem z902:tsz Try.prog 64=(some 3):=by kernel_rfl
theorem z498:tbytes Try.prog 64=(some 24):=by kernel_rfl
theorem z786:tagg Try.prog 64=(some true):=by kernel_rfl
theorem z369:tfields Try.prog 64=(some [(0,(1,false)),(1,(1,false)),(2,(1,false))]):=by kernel_rfl
theorem z925:teq Try.prog 64=(some [(0,false),(1,false),(2,true)]):=by kernel_rfl
theorem z901:tsz Try.prog 65=(some 1):=by kernel_rfl
theorem z497:tbytes Try.prog 65=(some 8):=by kernel_rfl
theorem z785:tagg Try.prog 65=(some false):=by kernel_rfl
theorem z770:tint Try.prog 65=(some IntKind.u64):=by kernel_rfl
theorem z900:tsz Try.prog 66=(some 1):=by kernel_rfl
theorem z496:tbytes Try.prog 66=(some 24):=by kernel_rfl
theorem z784:tagg Try.prog 66=(some false):=by kernel_rfl
theorem z478:tslice Try.prog 66=(some 112):=by kernel_rfl
theorem z899:tsz Try.prog 70=(some 6):=by kernel_rfl
theorem z495:tbytes Try.prog 70=(some 64):=by kernel_rfl
theorem z783:tagg Try.prog 70=(some true):=by kernel_rfl
theorem z368:tfields Try.prog 70=(some [(0,(2,true)),(2,(4,true))]):=by kernel_rfl
theorem z898:tsz Try.prog 74=(some 2):=by kernel_rfl
theorem z494:tbytes Try.prog 74=(some 48):=by kernel_rfl
theorem z782:tagg Try.prog 74=(some true):=by kernel_rfl
theorem z367:tfields Try.prog 74=(some [(0,(1,false)),(1,(1,false))]):=by kernel_rfl
theorem z897:tsz Try.prog 76=(some 1):=by kernel_rfl
theorem z493:tbytes Try.prog 76=(some 8):=by kernel_rfl
theorem z781:tagg Try.prog 76=(some false):=by kernel_rfl
theorem z896:tsz Try.prog 78=(some 1):=by kernel_rfl
theorem z492:tbytes Try.prog 78=(some 24):=by kernel_rfl
theorem z780:tagg Try.prog 78=(some false):=by kernel_rfl
theorem z477:tslice Try.prog 78=(some 32):=by kernel_rfl
theorem z895:tsz Try.prog 80=(some 1):=by kernel_rfl
theorem z491:tbytes Try.prog 80=(some 8):=by kernel_rfl
theorem z779:tagg Try.prog 80=(some false):=by kernel_rfl
theorem z894:tsz Try.prog 90=(some 1):=by kernel_rfl
theorem z490:tbytes Try.prog 90=(some 8):=by kernel_rfl
theorem z778:tagg Try.prog 90=(some false):=by kernel_rfl
theorem z893:tsz Try.prog 94=(some 1):=by kernel_rfl
theorem z489:tbytes Try.prog 94=(some 8):=by kernel_rfl
theorem z777:tagg Try.prog 94=(some false):=by kernel_rfl
theorem z892:tsz Try.prog 97=(some 2):=by kernel_rfl
theorem z488:tbytes Try.prog 97=(some 16):=by kernel_rfl
theorem z776:tagg Try.prog 97=(some true):=by kernel_rfl
theorem z366:tfields Try.prog 97=(some [(0,(1,false)),(1,(1,false))]):=by kernel_rfl
theorem z924:teq Try.prog 97=(some [(0,false),(1,false)]):=by kernel_rfl
theorem z891:tsz Try.prog 98=(some 4):=by kernel_rfl
theorem z487:tbytes Try.prog 98=(some 32):=by kernel_rfl
theorem z775:tagg Try.prog 98=(some true):=by kernel_rfl
theorem z365:tfields Try.prog 98=(some [(0,(2,true)),(2,(1,false)),(3,(1,false))]):=by kernel_rfl
theorem z923:teq Try.prog 98=(some [(0,false),(1,false),(2,false),(3,false)]):=by kernel_rfl
theorem z890:tsz Try.prog 99=(some 4):=by kernel_rfl
theorem z486:tbytes Try.prog 99=(some 32):=by kernel_rfl
theorem z774:tagg Try.prog 99=(some true):=by kernel_rfl
theorem z364:tfields Try.prog 99=(some [(0,(2,true)),(2,(1,false)),(3,(1,false))]):=by kernel_rfl
theorem z922:teq Try.prog 99=(some [(0,false),(1,false),(2,false),(3,false)]):=by kernel_rfl
theorem z769:tsz Try.prog 101=(some 1):=by kernel_rfl
theorem z401:tbytes Try.prog 101=(some 8):=by kernel_rfl
theorem z626:tagg Try.prog 101=(some false):=by kernel_rfl
theorem z768:tsz Try.prog 102=(some 1):=by kernel_rfl
theorem z400:tbytes Try.prog 102=(some 8):=by kernel_rfl
theorem z625:tagg Try.prog 102=(some false):=by kernel_rfl
theorem z767:tsz Try.prog 103=(some 1):=by kernel_rfl
theorem z399:tbytes Try.prog 103=(some 8):=by kernel_rfl
theorem z624:tagg Try.prog 103=(some false):=by kernel_rfl
theorem z485:tmapK Try.prog 103=(some (none,26)):=by kernel_rfl
theorem z766:tsz Try.prog 104=(some 3):=by kernel_rfl
theorem z398:tbytes Try.prog 104=(some 40):=by kernel_rfl
theorem z623:tagg Try.prog 104=(some true):=by kernel_rfl
theorem z315:tfields Try.prog 104=(some [(0,(2,true)),(2,(1,false))]):=by kernel_rfl
theorem z765:tsz Try.prog 105=(some 3):=by kernel_rfl
theorem z397:tbytes Try.prog 105=(some 40):=by kernel_rfl
theorem z622:tagg Try.prog 105=(some true):=by kernel_rfl
theorem z314:tfields Try.prog 105=(some [(0,(2,true)),(2,(1,false))]):=by kernel_rfl
theorem z764:tsz Try.prog 108=(some 1):=by kernel_rfl
theorem z396:tbytes Try.prog 108=(some 8):=by kernel_rfl
theorem z621:tagg Try.prog 108=(some false):=by kernel_rfl
theorem z763:tsz Try.prog 110=(some 1):=by kernel_rfl
theorem z395:tbytes Try.prog 110=(some 8):=by kernel_rfl
theorem z620:tagg Try.prog 110=(some false):=by kernel_rfl
theorem z762:tsz Try.prog 111=(some 3):=by kernel_rfl
theorem z394:tbytes Try.prog 111=(some 24):=by kernel_rfl
theorem z619:tagg Try.prog 111=(some true):=by kernel_rfl
theorem z313:tfields Try.prog 111=(some [(0,(1,false)),(1,(1,false)),(2,(1,false))]):=by kernel_rfl
theorem z773:teq Try.prog 111=(some [(0,false),(1,false),(2,false)]):=by kernel_rfl
theorem z761:tsz Try.prog 112=(some 3):=by kernel_rfl
theorem z393:tbytes Try.prog 112=(some 24):=by kernel_rfl
theorem z618:tagg Try.prog 112=(some true):=by kernel_rfl
theorem z312:tfields Try.prog 112=(some [(0,(1,false)),(1,(1,false)),(2,(1,false))]):=by kernel_rfl
theorem z772:teq Try.prog 112=(some [(0,false),(1,false),(2,false)]):=by kernel_rfl
theorem z760:tsz Try.prog 114=(some 1):=by kernel_rfl
theorem z392:tbytes Try.prog 114=(some 8):=by kernel_rfl
theorem z617:tagg Try.prog 114=(some false):=by kernel_rfl
theorem z759:tsz Try.prog 115=(some 1):=by kernel_rfl
theorem z391:tbytes Try.prog 115=(some 0):=by kernel_rfl
theorem z616:tagg Try.prog 115=(some false):=by kernel_rfl
theorem z758:tsz Try.prog 116=(some 1):=by kernel_rfl
theorem z390:tbytes Try.prog 116=(some 8):=by kernel_rfl
theorem z615:tagg Try.prog 116=(some false):=by kernel_rfl
theorem z757:tsz Try.prog 117=(some 1):=by kernel_rfl
theorem z389:tbytes Try.prog 117=(some 8):=by kernel_rfl
theorem z614:tagg Try.prog 117=(some false):=by kernel_rfl
theorem z756:tsz Try.prog 118=(some 1):=by kernel_rfl
theorem z388:tbytes Try.prog 118=(some 8):=by kernel_rfl
theorem z613:tagg Try.prog 118=(some false):=by kernel_rfl
theorem z755:tsz Try.prog 119=(some 1):=by kernel_rfl
theorem z387:tbytes Try.prog 119=(some 8):=by kernel_rfl
theorem z612:tagg Try.prog 119=(some false):=by kernel_rfl
theorem z754:tsz Try.prog 120=(some 1):=by kernel_rfl
theorem z386:tbytes Try.prog 120=(some 8):=by kernel_rfl
theorem z611:tagg Try.prog 120=(some false):=by kernel_rfl
theorem z753:tsz Try.prog 122=(some 12):=by kernel_rfl
theorem z385:tbytes Try.prog 122=(some 128):=by kernel_rfl
theorem z610:tagg Try.prog 122=(some true):=by kernel_rfl
theorem z311:tfields Try.prog 122=(some [(0,(3,true)),(3,(9,true))]):=by kernel_rfl
theorem z752:tsz Try.prog 123=(some 1):=by kernel_rfl
theorem z384:tbytes Try.prog 123=(some 8):=by kernel_rfl
theorem z609:tagg Try.prog 123=(some false):=by kernel_rfl
theorem z484:tmapK Try.prog 123=(some ((some [IntKind.i64,IntKind.i64]),99)):=by kernel_rfl
theorem z751:tsz Try.prog 124=(some 1):=by kernel_rfl
theorem z383:tbytes Try.prog 124=(some 24):=by kernel_rfl
theorem z608:tagg Try.prog 124=(some false):=by kernel_rfl
theorem z363:tslice Try.prog 124=(some 97):=by kernel_rfl
theorem z750:tsz Try.prog 126=(some 3):=by kernel_rfl
theorem z382:tbytes Try.prog 126=(some 40):=by kernel_rfl
theorem z607:tagg Try.prog 126=(some true):=by kernel_rfl
theorem z310:tfields Try.prog 126=(some [(0,(1,false)),(1,(1,false)),(2,(1,false))]):=by kernel_rfl
theorem z749:tsz Try.prog 128=(some 1):=by kernel_rfl
theorem z381:tbytes Try.prog 128=(some 8):=by kernel_rfl
theorem z606:tagg Try.prog 128=(some false):=by kernel_rfl
theorem z483:tmapK Try.prog 128=(some ((some [IntKind.i64,IntKind.i64]),3)):=by kernel_rfl
theorem z748:tsz Try.prog 134=(some 1):=by kernel_rfl
theorem z380:tbytes Try.prog 134=(some 8):=by kernel_rfl
theorem z605:tagg Try.prog 134=(some false):=by kernel_rfl
theorem z747:tsz Try.prog 140=(some 1):=by kernel_rfl
theorem z379:tbytes Try.prog 140=(some 4):=by kernel_rfl
theorem z604:tagg Try.prog 140=(some false):=by kernel_rfl
theorem z593:tint Try.prog 140=(some IntKind.u32):=by kernel_rfl
theorem z746:tsz Try.prog 143=(some 1):=by kernel_rfl
theorem z378:tbytes Try.prog 143=(some 8):=by kernel_rfl
theorem z603:tagg Try.prog 143=(some false):=by kernel_rfl
theorem z592:tint Try.prog 143=(some IntKind.u64):=by kernel_rfl
theorem z745:tsz Try.prog 150=(some 1):=by kernel_rfl
theorem z377:tbytes Try.prog 150=(some 8):=by kernel_rfl
theorem z602:tagg Try.prog 150=(some false):=by kernel_rfl
theorem z744:tsz Try.prog 152=(some 1):=by kernel_rfl
theorem z376:tbytes Try.prog 152=(some 8):=by kernel_rfl
theorem z601:tagg Try.prog 152=(some false):=by kernel_rfl
theorem z889:tzero Try.prog 1=some Value.nilFunc:=by kernel_rfl
theorem z888:tzero Try.prog 2=some (Value.int IntKind.i64 0):=by kernel_rfl
theorem z887:tzero Try.prog 3=some (Value.int IntKind.i64 0):=by kernel_rfl
theorem z886:tzero Try.prog 4=some (Value.bool false):=by kernel_rfl
theorem z885:tzero Try.prog 5=some (Value.int IntKind.u8 0):=by kernel_rfl
theorem z743:tzero Try.prog 17=some (Value.pointer none):=by kernel_rfl
theorem z742:tzero Try.prog 22=some (Value.slice none 0 0):=by kernel_rfl
theorem z741:tzero Try.prog 24=some (Value.agg #[Value.int IntKind.i64 0,Value.slice none 0 0]):=by kernel_rfl
theorem z740:tzero Try.prog 26=some (Value.agg #[Value.int IntKind.i64 0,Value.int IntKind.i64 0]):=by kernel_rfl
theorem z739:tzero Try.prog 28=some (Value.agg #[Value.int IntKind.i64 0,Value.int IntKind.i64 0,Value.int IntKind.i64 0,Value.int IntKind.i64 0]):=by kernel_rfl
theorem z738:tzero Try.prog 29=some (Value.slice none 0 0):=by kernel_rfl
theorem z737:tzero Try.prog 31=some (Value.agg #[Value.int IntKind.i64 0,Value.int IntKind.i64 0,Value.int IntKind.i64 0,Value.int IntKind.i64 0,Value.int IntKind.i64 0,Value.int IntKind.i64 0,Value.int IntKind.i64 0,Value.int IntKind.i64 0,Value.slice none 0 0]):=by kernel_rfl
theorem z736:tzero Try.prog 32=some (Value.slice none 0 0):=by kernel_rfl
theorem z735:tzero Try.prog 34=some (Value.agg #[Value.int IntKind.i64 0,Value.int IntKind.i64 0,Value.int IntKind.i64 0,Value.int IntKind.i64 0,Value.int IntKind.i64 0,Value.int IntKind.i64 0,Value.int IntKind.i64 0,Value.int IntKind.i64 0,Value.slice none 0 0,Value.int IntKind.i64 0,Value.slice none 0 0]):=by kernel_rfl
theorem z734:tzero Try.prog 36=some (Value.int IntKind.i64 0):=by kernel_rfl
theorem z733:tzero Try.prog 41=some Value.nilFunc:=by kernel_rfl
theorem z732:tzero Try.prog 42=some Value.nilFunc:=by kernel_rfl
theorem z731:tzero Try.prog 52=some Value.nilFunc:=by kernel_rfl
theorem z730:tzero Try.prog 54=some (Value.slice none 0 0):=by kernel_rfl
theorem z729:tzero Try.prog 56=some (Value.agg #[Value.int IntKind.i64 0,Value.int IntKind.i64 0,Value.int IntKind.i64 0,Value.int IntKind.i64 0,Value.int IntKind.i64 0,Value.int IntKind.i64 0,Value.int IntKind.i64 0,Value.slice none 0 0]):=by kernel_rfl
theorem z728:tzero Try.prog 64=some (Value.agg #[Value.int IntKind.i64 0,Value.int IntKind.i64 0,Value.bool false]):=by kernel_rfl
theorem z727:tzero Try.prog 65=some (Value.int IntKind.u64 0):=by kernel_rfl
theorem z726:tzero Try.prog 66=some (Value.slice none 0 0):=by kernel_rfl
theorem z725:tzero Try.prog 70=some (Value.agg #[Value.int IntKind.i64 0,Value.slice none 0 0,Value.int IntKind.i64 0,Value.int IntKind.i64 0,Value.int IntKind.i64 0,Value.int IntKind.i64 0]):=by kernel_rfl
theorem z724:tzero Try.prog 74=some (Value.agg #[Value.slice none 0 0,Value.slice none 0 0]):=by kernel_rfl
theorem z723:tzero Try.prog 76=some Value.nilFunc:=by kernel_rfl
theorem z722:tzero Try.prog 78=some (Value.slice none 0 0):=by kernel_rfl
theorem z721:tzero Try.prog 80=some Value.nilFunc:=by kernel_rfl
theorem z720:tzero Try.prog 90=some (Value.pointer none):=by kernel_rfl
theorem z719:tzero Try.prog 94=some (Value.pointer none):=by kernel_rfl
theorem z718:tzero Try.prog 97=some (Value.agg #[Value.int IntKind.i64 0,Value.int IntKind.i64 0]):=by kernel_rfl
theorem z717:tzero Try.prog 98=some (Value.agg #[Value.int IntKind.i64 0,Value.int IntKind.i64 0,Value.int IntKind.i64 0,Value.int IntKind.i64 0]):=by kernel_rfl
theorem z716:tzero Try.prog 99=some (Value.agg #[Value.int IntKind.i64 0,Value.int IntKind.i64 0,Value.int IntKind.i64 0,Value.int IntKind.i64 0]):=by kernel_rfl
theorem z591:tzero Try.prog 101=some Value.nilFunc:=by kernel_rfl
theorem z590:tzero Try.prog 102=some Value.nilFunc:=by kernel_rfl
theorem z589:tzero Try.prog 103=some (Value.map none):=by kernel_rfl
theorem z588:tzero Try.prog 104=some (Value.agg #[Value.int IntKind.i64 0,Value.slice none 0 0,Value.map none]):=by kernel_rfl
theorem z587:tzero Try.prog 105=some (Value.agg #[Value.int IntKind.i64 0,Value.slice none 0 0,Value.map none]):=by kernel_rfl
theorem z586:tzero Try.prog 108=some Value.nilFunc:=by kernel_rfl
theorem z585:tzero Try.prog 110=some Value.nilFunc:=by kernel_rfl
theorem z584:tzero Try.prog 111=some (Value.agg #[Value.int IntKind.i64 0,Value.int IntKind.i64 0,Value.int IntKind.i64 0]):=by kernel_rfl
theorem z583:tzero Try.prog 112=some (Value.agg #[Value.int IntKind.i64 0,Value.int IntKind.i64 0,Value.int IntKind.i64 0]):=by kernel_rfl
theorem z582:tzero Try.prog 114=some Value.nilFunc:=by kernel_rfl
theorem z581:tzero Try.prog 116=some Value.nilFunc:=by kernel_rfl
theorem z580:tzero Try.prog 117=some Value.nilFunc:=by kernel_rfl
theorem z579:tzero Try.prog 118=some Value.nilFunc:=by kernel_rfl
theorem z578:tzero Try.prog 119=some Value.nilFunc:=by kernel_rfl
theorem z577:tzero Try.prog 120=some Value.nilFunc:=by kernel_rfl
theorem z576:tzero Try.prog 122=some (Value.agg #[Value.int IntKind.i64 0,Value.slice none 0 0,Value.map none,Value.int IntKind.i64 0,Value.int IntKind.i64 0,Value.int IntKind.i64 0,Value.int IntKind.i64 0,Value.int IntKind.i64 0,Value.int IntKind.i64 0,Value.int IntKind.i64 0,Value.int IntKind.i64 0,Value.slice none 0 0]):=by kernel_rfl
theorem z575:tzero Try.prog 123=some (Value.map none):=by kernel_rfl
theorem z574:tzero Try.prog 124=some (Value.slice none 0 0):=by kernel_rfl
theorem z573:tzero Try.prog 126=some (Value.agg #[Value.pointer none,Value.map none,Value.slice none 0 0]):=by kernel_rfl
theorem z572:tzero Try.prog 128=some (Value.map none):=by kernel_rfl
theorem z571:tzero Try.prog 134=some Value.nilFunc:=by kernel_rfl
theorem z570:tzero Try.prog 140=some (Value.int IntKind.u32 0):=by kernel_rfl
theorem z569:tzero Try.prog 143=some (Value.int IntKind.u64 0):=by kernel_rfl
theorem z568:tzero Try.prog 150=some Value.nilFunc:=by kernel_rfl
theorem z567:tzero Try.prog 152=some Value.nilFunc:=by kernel_rfl
attribute [go_sem] z992 z600 z934 z991 z599 z933 z990 z598 z932 z921 z989 z597 z931 z920 z988 z596 z930 z987 z595 z929 z919 z986 z594 z928 z918 z514 z802 z917 z513 z801 z482 z916 z512 z800 z375 z915 z511 z799 z374 z927 z914 z510 z798 z373 z926 z913 z509 z797 z481 z912 z508 z796 z372 z911 z507 z795 z480 z910 z506 z794 z371 z909 z505 z793 z771 z908 z504 z792 z907 z503 z791 z906 z502 z790 z905 z501 z789 z904 z500 z788 z479 z903 z499 z787 z370 z902 z498 z786 z369 z925 z901 z497 z785 z770 z900 z496 z784 z478 z899 z495 z783 z368 z898 z494 z782 z367 z897 z493 z781 z896 z492 z780 z477 z895 z491 z779 z894 z490 z778 z893 z489 z777 z892 z488 z776 z366 z924 z891 z487 z775 z365 z923 z890 z486 z774 z364 z922 z769 z401 z626 z768 z400 z625 z767 z399 z624 z485 z766 z398 z623 z315 z765 z397 z622 z314 z764 z396 z621 z763 z395 z620 z762 z394 z619 z313 z773 z761 z393 z618 z312 z772 z760 z392 z617 z759 z391 z616 z758 z390 z615 z757 z389 z614 z756 z388 z613 z755 z387 z612 z754 z386 z611 z753 z385 z610 z311 z752 z384 z609 z484 z751 z383 z608 z363 z750 z382 z607 z310 z749 z381 z606 z483 z748 z380 z605 z747 z379 z604 z593 z746 z378 z603 z592 z745 z377 z602 z744 z376 z601 z889 z888 z887 z886 z885 z743 z742 z741 z740 z739 z738 z737 z736 z735 z734 z733 z732 z731 z730 z729 z728 z727 z726 z725 z724 z723 z722 z721 z720 z719 z718 z717 z716 z591 z590 z589 z588 z587 z586 z585 z584 z583 z582 z581 z580 z579 z578 z577 z576 z575 z574 z573 z572 z571 z570 z569 z568 z567 Try.underlying2 Try.underlying3 Try.underlying4 Try.underlying5 Try.underlying17 Try.underlying36 Try.underlying65 Try.underlying90 Try.underlying94 Try.underlying140 Try.underlying143
theorem weA {st st':St} (h1:lessT [] st.t st'.t) (h2:lessM [] 0 st.m st'.m) (h3:st'.t.all (liveB st'.m)=true:=by rfl) (h4:liveM st'.m st'.m=true:=by rfl):Weak st st':=z32 [] h1 h2 h3 h4
attribute [simp] lessT lessM lessB AV.less
end Go.Ab
namespace Go.Ab
open Go.RowKit Go.Proofs
structure Span where
 lo:Int
 hi:Int
structure Path where
 frm:Int
 to:Int
 grade:Int
 time:Span
 snow:Span
 opens:List Span
structure Net where
 places:Int
 paths:List Path
structure Party where
 grade:Int
 load:Int
 pace:Span
def Span.row (s:Span):List DV:=[.i s.lo,.i s.hi]
def Path.row (p:Path):List DV:=[.i p.frm,.i p.to,.i p.grade,.i p.time.lo,.i p.time.hi,.i p.snow.lo,.i p.snow.hi,.sl (p.opens.map Span.row)]
def Net.cells (n:Net):List DV:=[.i n.places,.sl (n.paths.map Path.row)]
def Party.cells (p:Party):List DV:=[.i p.grade,.i p.load,.i p.pace.lo,.i p.pace.hi]
def walkCells (n:Net) (p:Party):List DV:=[.i n.places,.sl (n.paths.map Path.row),.i p.grade,.i p.load,.i p.pace.lo,.i p.pace.hi]
abbrev wr (x:Int):Int:=IntKind.i64.wrap x
def timeW (t pace snow load:Int):Int:=wr ((wr (wr (wr (t * pace) * wr (wr (100 + wr (5 * snow)) + load)) + 9999)).tdiv 10000)
theorem z40 {α β:Type} (f:β→α→β) (b:β) (l:List α) (i:Nat) (x:α) (h:l[i]?=some x):(l.take (i + 1)).foldl f b=f ((l.take i).foldl f b) x:=by
 rw [List.take_add_one,h];simp
theorem z9 {x:Int} (h:-(2 ^ 63)≤x∧x<2 ^ 63):IntKind.i64.wrap x=x:=by
 rw [IntKind.wrap_i64];omega
def withinB (n lo hi:Int):Bool:=decide (lo≤n) && decide (n≤hi)
def orderedB (s:Span) (lo hi:Int):Bool:=decide (lo≤s.lo) && (decide (s.lo≤s.hi) && decide (s.hi≤hi))
theorem z972 (n lo hi:Int):Fn Try.prog 53 [.i n,.i lo,.i hi] (.bool (withinB n lo hi)):=by
 refine z12 15 Try.call53 Try.func53 rfl (by decide) fun J=>?_
 simp only [go_sem,St.start,Try.ntmps53,Try.results53]
 by_cases h:lo≤n
 ·repeat (first | refine nx ?_ | (refine z3 fun K hK=>?_;simp only [go_sem,h];apply hK;clear hK K))
  simp only [go_sem,withinB,h]
 ·repeat (first | refine nx ?_ | (refine z3 fun K hK=>?_;simp only [go_sem,h];apply hK;clear hK K))
  simp only [go_sem,withinB,h]
theorem z1128 (n lo hi:Int):Fn Try.prog 21 [.i n,.i lo,.i hi] (.bool (withinB n lo hi)):=by
 refine z12 15 Try.call21 Try.func21 rfl (by decide) fun J=>?_
 simp only [go_sem,St.start,Try.ntmps21,Try.results21]
 by_cases h:lo≤n
 ·repeat (first | refine nx ?_ | (refine z3 fun K hK=>?_;simp only [go_sem,h,ge_iff_le];apply hK;clear hK K))
  simp only [go_sem,withinB,h]
 ·repeat (first | refine nx ?_ | (refine z3 fun K hK=>?_;simp only [go_sem,h,ge_iff_le];apply hK;clear hK K))
  simp only [go_sem,withinB,h]
theorem z1166 (s:Span) (lo hi:Int):Fn Try.prog 69 [.agg s.row,.i lo,.i hi] (.bool (orderedB s lo hi)):=by
 refine z12 24 Try.call69 Try.func69 rfl (by decide) fun J=>?_
 simp only [go_sem,St.start,Try.ntmps69,Try.results69,Span.row]
 by_cases h:lo≤s.lo <;> by_cases h2:s.lo≤s.hi
 all_goals
  repeat (first | refine nx ?_ | (refine z3 fun K hK=>?_;simp only [go_sem,h,h2];apply hK;clear hK K))
  simp only [go_sem,orderedB,h,h2]
theorem z1167 (s:Span) (lo hi:Int):Fn Try.prog 43 [.agg s.row,.i lo,.i hi] (.bool (orderedB s lo hi)):=by
 refine z12 24 Try.call43 Try.func43 rfl (by decide) fun J=>?_
 simp only [go_sem,St.start,Try.ntmps43,Try.results43,Span.row]
 by_cases h:lo≤s.lo <;> by_cases h2:s.lo≤s.hi
 all_goals
  repeat (first | refine nx ?_ | (refine z3 fun K hK=>?_;simp only [go_sem,h,h2,ge_iff_le];apply hK;clear hK K))
  simp only [go_sem,orderedB,h,h2]
theorem zf78 (n:Net) (x:Int) (hn:0≤n.places∧n.places<2 ^ 62):Fn Try.prog 78 [.i x,.ptr n.cells 0] (.bool (withinB x 0 (n.places - 1))):=by
 refine z12 9 Try.call78 Try.func78 rfl (by decide) fun J=>?_
 simp only [go_sem,St.start,Try.ntmps78,Try.results78,Net.cells]
 have hw:IntKind.i64.wrap (n.places - 1)=n.places - 1:=z9 (by omega)
 repeat (first | refine nx ?_ | (refine z3 fun K hK=>?_;simp only [go_sem,hw];(repeat (first | (refine ⟨_,.lent (hf:=z972 _ _ _) (hd:=rfl) (hr:=rfl),?_⟩;simp only [go_sem,hw]) | (refine ⟨_,.given (hf:=z972 _ _ _) (hd:=rfl) (ha:=rfl),?_⟩;simp only [go_sem,hw])));apply hK;clear hK K))
 simp only [go_sem]
theorem zf7 (n:Net) (x:Int) (hn:-(2 ^ 62)≤n.places∧n.places<2 ^ 62):Fn Try.prog 7 [.agg n.cells,.i x] (.bool (withinB x 0 (n.places - 1))):=by
 refine z12 10 Try.call7 Try.func7 rfl (by decide) fun J=>?_
 simp only [go_sem,St.start,Try.ntmps7,Try.results7,Net.cells]
 have hw:IntKind.i64.wrap (n.places - 1)=n.places - 1:=z9 (by omega)
 repeat (first | refine nx ?_ | (refine z3 fun K hK=>?_;simp only [go_sem,hw];(repeat (first | (refine ⟨_,.lent (hf:=z1128 _ _ _) (hd:=rfl) (hr:=rfl),?_⟩;simp only [go_sem,hw]) | (refine ⟨_,.given (hf:=z1128 _ _ _) (hd:=rfl) (ha:=rfl),?_⟩;simp only [go_sem,hw])));apply hK;clear hK K))
 simp only [go_sem]
theorem zf34 (n:Net) (x:Int) (hn:n.paths.length<2 ^ 62):Fn Try.prog 34 [.agg n.cells,.i x] (.bool (withinB x 0 (n.paths.length - 1))):=by
 refine z12 11 Try.call34 Try.func34 rfl (by decide) fun J=>?_
 simp only [go_sem,St.start,Try.ntmps34,Try.results34,Net.cells]
 have hw:IntKind.i64.wrap ((n.paths.length:Int) - 1)=n.paths.length - 1:=z9 (by omega)
 repeat (first | refine nx ?_ | (refine z3 fun K hK=>?_;simp only [go_sem,hw];(repeat (first | (refine ⟨_,.lent (hf:=z1128 _ _ _) (hd:=rfl) (hr:=rfl),?_⟩;simp only [go_sem,hw]) | (refine ⟨_,.given (hf:=z1128 _ _ _) (hd:=rfl) (ha:=rfl),?_⟩;simp only [go_sem,hw])));apply hK;clear hK K))
 simp only [go_sem]
theorem zf79 (s:Span) (n:DV):Fn Try.prog 79 [.agg s.row] (.bool (!orderedB s 0 2880)):=by
 refine z12 6 Try.call79 Try.func79 rfl (by decide) fun J=>?_
 simp only [go_sem,St.start,Try.ntmps79,Try.results79,Span.row]
 repeat (first | refine nx ?_ | (refine z3 fun K hK=>?_;simp only [go_sem];(repeat (first | (refine ⟨_,.lent (hf:=z1166 s _ _) (hd:=rfl) (hr:=rfl),?_⟩;simp only [go_sem]) | (refine ⟨_,.given (hf:=z1166 s _ _) (hd:=rfl) (ha:=rfl),?_⟩;simp only [go_sem])));apply hK;clear hK K))
 simp only [go_sem]
theorem zf25 (s:Span):Fn Try.prog 25 [.agg s.row] (.i s.hi):=by
 refine z12 5 Try.call25 Try.func25 rfl (by decide) fun J=>?_
 simp only [go_sem,St.start,Try.ntmps25,Try.results25,Span.row]
 repeat (first | refine nx ?_ | (refine z3 fun K hK=>?_;simp only [go_sem];apply hK;clear hK K))
 simp only [go_sem]
theorem zf48 (s:Span):Fn Try.prog 48 [.agg s.row] (.i s.lo):=by
 refine z12 5 Try.call48 Try.func48 rfl (by decide) fun J=>?_
 simp only [go_sem,St.start,Try.ntmps48,Try.results48,Span.row]
 repeat (first | refine nx ?_ | (refine z3 fun K hK=>?_;simp only [go_sem];apply hK;clear hK K))
 simp only [go_sem]
theorem zf68 (lo hi:Int):Fn Try.prog 68 [.i lo,.i hi] (.agg [.i lo,.i hi]):=by
 refine z12 8 Try.call68 Try.func68 rfl (by decide) fun J=>?_
 simp only [go_sem,St.start,Try.ntmps68,Try.results68]
 repeat (first | refine nx ?_ | (refine z3 fun K hK=>?_;simp only [go_sem];apply hK;clear hK K))
 simp only [go_sem]
theorem zf35 (n:Net) (p:Party) (i:Nat) (x:Path) (hx:n.paths[i]?=some x):Fn Try.prog 35 [.agg n.cells,.agg p.cells,.i i] (.bool (decide (x.grade≤p.grade))):=by
 refine z12 16 Try.call35 Try.func35 rfl (by decide) fun J=>?_
 simp only [go_sem,St.start,Try.ntmps35,Try.results35,Net.cells,Party.cells]
 repeat (first | refine nx ?_ | (refine z3 fun K hK=>?_;simp only [go_sem,hx,List.getElem?_map,Path.row];apply hK;clear hK K) | (refine z6 (by kernel_rfl) (by kernel_rfl) fun K hK=>?_;simp only [go_sem,hx,List.getElem?_map,Path.row];refine ⟨by kernel_rfl,hK _ ?_⟩;clear hK K))
 simp only [go_sem]
theorem zf57 (n:Net) (p:Party) (i:Nat) (x:Path) (hx:n.paths[i]?=some x):Fn Try.prog 57 [.agg (walkCells n p),.i i] (.bool (decide (x.grade≤p.grade))):=by
 refine z12 16 Try.call57 Try.func57 rfl (by decide) fun J=>?_
 simp only [go_sem,St.start,Try.ntmps57,Try.results57,walkCells]
 repeat (first | refine nx ?_ | (refine z3 fun K hK=>?_;simp only [go_sem,hx,List.getElem?_map,Path.row];apply hK;clear hK K) | (refine z6 (by kernel_rfl) (by kernel_rfl) fun K hK=>?_;simp only [go_sem,hx,List.getElem?_map,Path.row];refine ⟨by kernel_rfl,hK _ ?_⟩;clear hK K))
 simp only [go_sem]
theorem z1195 (t pace snow:Int) (n:Net) (p:Party):Fn Try.prog 58 [.i t,.i pace,.i snow,.ptr (walkCells n p) 0] (.i (timeW t pace snow p.load)):=by
 refine z12 21 Try.call58 Try.func58 rfl (by decide) fun J=>?_
 simp only [go_sem,St.start,Try.ntmps58,Try.results58,walkCells]
 repeat (first | refine nx ?_ | (refine z3 fun K hK=>?_;simp only [go_sem];apply hK;clear hK K))
 simp only [go_sem,timeW]
theorem z1194 (t pace snow load:Int):Fn Try.prog 59 [.i t,.i pace,.i snow,.i load] (.i (timeW t pace snow load)):=by
 refine z12 20 Try.call59 Try.func59 rfl (by decide) fun J=>?_
 simp only [go_sem,St.start,Try.ntmps59,Try.results59]
 repeat (first | refine nx ?_ | (refine z3 fun K hK=>?_;simp only [go_sem];apply hK;clear hK K))
 simp only [go_sem,timeW]
def enterF (opens:List Span) (t:Int):Int:=opens.foldl (fun f s=>if t≤s.hi then min f (max t s.lo) else f) 1073741824
theorem zf36 (x:Path) (t:Int) (hl:x.opens.length<2 ^ 62):Fn Try.prog 36 [.agg x.row,.i t] (.i (enterF x.opens t)):=by
 refine z12 33 Try.call36 Try.func36 rfl (by decide) fun J=>?_
 simp only [go_sem,St.start,Try.ntmps36,Try.results36,Path.row]
 repeat (first | refine nx ?_ | (refine z3 fun K hK=>?_;simp only [go_sem];apply hK;clear hK K))
 refine z18 (fun (i:Nat)=>[(5,.d (.i (enterF (x.opens.take i) t))),(6,.d (.i i))]) (fun _=>[]) (fun i=>i≤x.opens.length) (fun i=>x.opens.length - i) 0 ?_ (Nat.zero_le _) ?_
 ·simp only [go_sem]
  refine weA ?_ ?_ <;> simp
  rfl
 ·intro i hi
  simp only [go_sem]
  repeat (first | refine nx ?_ | (refine z3 fun K hK=>?_;simp only [go_sem];apply hK;clear hK K))
  refine z4 rfl (fun hb=>?_) (fun hb=>?_)
  ·have hlt:i<x.opens.length:=by simpa using hb
   obtain ⟨s,hs⟩:∃ s,x.opens[i]?=some s:=⟨_,List.getElem?_eq_getElem hlt⟩
   have hw:IntKind.i64.wrap ((i:Int) + 1)=((i + 1:Nat):Int):=by rw [z9 (by omega)];simp
   have hn:enterF (x.opens.take (i + 1)) t=if t≤s.hi then min (enterF (x.opens.take i) t) (max t s.lo) else enterF (x.opens.take i) t:=z40 _ _ _ _ _ hs
   repeat (first | refine nx ?_ | (refine z3 fun K hK=>?_;simp only [go_sem,hs,List.getElem?_map,Span.row,hw];apply hK;clear hK K))
   refine z4 rfl (fun hc=>?_) (fun hc=>?_)
   ·have hc:t≤s.hi:=by simpa using hc
    repeat (first | refine nx ?_ | (refine z3 fun K hK=>?_;simp only [go_sem,hs,List.getElem?_map,Span.row,hw];apply hK;clear hK K))
    refine ⟨rfl,i + 1,?_,hlt,by omega⟩
    rw [hn,if_pos hc]
    refine weA ?_ ?_ <;> simp
   ·have hc:¬ t≤s.hi:=by simpa using hc
    repeat (first | refine nx ?_ | (refine z3 fun K hK=>?_;simp only [go_sem,hs,List.getElem?_map,Span.row,hw];apply hK;clear hK K))
    refine ⟨rfl,i + 1,?_,hlt,by omega⟩
    rw [hn,if_neg hc]
    refine weA ?_ ?_ <;> simp
  ·have he:i=x.opens.length:=by have:¬ i<x.opens.length:=by simpa using hb
                                omega
   subst he
   repeat (first | refine nx ?_ | (refine z3 fun K hK=>?_;simp only [go_sem];apply hK;clear hK K))
   simp only [go_sem,List.take_length]
end Go.Ab
namespace Go.Ab
open Go.RowKit Go.Proofs
def spanW (x:Path) (p:Party):Span:=⟨timeW x.time.lo p.pace.lo x.snow.lo p.load,timeW x.time.hi p.pace.hi x.snow.hi p.load⟩
theorem z1165 (n:Net) (p:Party) (i:Nat) (x:Path) (hx:n.paths[i]?=some x):Fn Try.prog 33 [.agg (walkCells n p),.i i] (.agg (spanW x p).row):=by
 refine z12 39 Try.call33 Try.func33 rfl (by decide) fun J=>?_
 simp only [go_sem,St.start,Try.ntmps33,Try.results33,walkCells]
 repeat (first | refine nx ?_ | (refine z3 fun K hK=>?_;simp only [go_sem,hx,List.getElem?_map,Path.row,Span.row,spanW];(repeat (first | (refine ⟨_,.lent (hf:=z1195 _ _ _ n p) (hd:=rfl) (hr:=rfl),?_⟩;simp only [go_sem,hx,List.getElem?_map,Path.row,Span.row,spanW]) | (refine ⟨_,.given (hf:=z1195 _ _ _ n p) (hd:=rfl) (ha:=rfl),?_⟩;simp only [go_sem,hx,List.getElem?_map,Path.row,Span.row,spanW])));apply hK;clear hK K) | (refine z6 (by kernel_rfl) (by kernel_rfl) fun K hK=>?_;simp only [go_sem,hx,List.getElem?_map,Path.row,Span.row,spanW];(repeat (first | (refine ⟨_,.fn (hf:=z1195 _ _ _ n p) (hd:=rfl) (hr:=.inl rfl),?_⟩;simp only [go_sem,hx,List.getElem?_map,Path.row,Span.row,spanW])));refine ⟨by kernel_rfl,hK _ ?_⟩;clear hK K))
 simp only [go_sem,hx,List.getElem?_map,Path.row,Span.row,spanW]
theorem zf37 (n:Net) (p:Party) (i:Nat) (x:Path) (hx:n.paths[i]?=some x):Fn Try.prog 37 [.agg n.cells,.agg p.cells,.i i] (.agg (spanW x p).row):=by
 refine z12 38 Try.call37 Try.func37 rfl (by decide) fun J=>?_
 simp only [go_sem,St.start,Try.ntmps37,Try.results37,Net.cells,Party.cells]
 repeat (first | refine nx ?_ | (refine z3 fun K hK=>?_;simp only [go_sem,hx,List.getElem?_map,Path.row,Span.row,spanW];(repeat (first | (refine ⟨_,.lent (hf:=z1194 _ _ _ _) (hd:=rfl) (hr:=rfl),?_⟩;simp only [go_sem,hx,List.getElem?_map,Path.row,Span.row,spanW]) | (refine ⟨_,.given (hf:=z1194 _ _ _ _) (hd:=rfl) (ha:=rfl),?_⟩;simp only [go_sem,hx,List.getElem?_map,Path.row,Span.row,spanW])));apply hK;clear hK K) | (refine z6 (by kernel_rfl) (by kernel_rfl) fun K hK=>?_;simp only [go_sem,hx,List.getElem?_map,Path.row,Span.row,spanW];(repeat (first | (refine ⟨_,.fn (hf:=z1194 _ _ _ _) (hd:=rfl) (hr:=.inl rfl),?_⟩;simp only [go_sem,hx,List.getElem?_map,Path.row,Span.row,spanW])));refine ⟨by kernel_rfl,hK _ ?_⟩;clear hK K))
 simp only [go_sem,hx,List.getElem?_map,Path.row,Span.row,spanW]
def idxFrom {α:Type} (q:α→Bool):List α→Nat→Int
 | [],_=>-1
 | x::xs,i=>if q x then (i:Int) else idxFrom q xs (i + 1)
theorem z66 {α:Type} (q:α→Bool):∀ (l:List α) (i:Nat),decide (idxFrom q l i ≥ 0)=l.any q
 | [],i=>by simp [idxFrom]
 | x::xs,i=>by
  simp only [idxFrom,List.any_cons]
  by_cases h:q x
  ·simp [h]
  ·simp [h,← z66 q xs (i + 1)]
theorem z134 (m:List (Option Blk)) (x:AV) (d:DV) (caps:List DV) (h:reify m deep x=some d):allSome ((x::caps.map AV.d).map (reify m deep))=some (d::caps):=by
 have:∀ l:List DV,allSome ((l.map AV.d).map (reify m deep))=some l:=by
  intro l
  induction l with
  | nil=>rfl
  | cons a l ih =>
   simp only [List.map_cons]
   rw [show reify m deep (AV.d a)=some a from rfl]
   simp only [allSome,ih,Option.map_some]
 simp only [List.map_cons,h,allSome]
 rw [this caps]
 rfl
theorem z69 {α:Type} {l:List α} {i:Nat} {x:α} (h:l[i]?=some x):l.drop i=x::l.drop (i + 1):=by
 obtain ⟨hlt,rfl⟩:=List.getElem?_eq_some_iff.1 h
 exact List.drop_eq_getElem_cons hlt
theorem zf85 (xs:List Span) (g:Nat) (caps:List DV) (q:Span→Bool) (hq:∀ s ∈ xs,Fn Try.prog g (.agg s.row::caps) (.bool (q s))) (hl:xs.length<2 ^ 62):Fn Try.prog 85 [.sl (xs.map Span.row),.fn g caps] (.i (idxFrom q xs 0)):=by
 refine z12 19 Try.call85 Try.func85 rfl (by decide) fun J=>?_
 simp only [go_sem,St.start,Try.ntmps85,Try.results85]
 repeat (first | refine nx ?_ | (refine z3 fun K hK=>?_;simp only [go_sem];apply hK;clear hK K))
 refine z18 (fun (i:Nat)=>[(8,.d (.i i))]) (fun _=>[]) (fun i=>i≤xs.length∧idxFrom q xs 0=idxFrom q (xs.drop i) i) (fun i=>xs.length - i) 0 ?_ ⟨Nat.zero_le _,rfl⟩ ?_
 ·simp only [go_sem]
  refine weA ?_ ?_ <;> simp
 ·intro i ⟨hi,hq0⟩
  simp only [go_sem]
  repeat (first | refine nx ?_ | (refine z3 fun K hK=>?_;simp only [go_sem];apply hK;clear hK K))
  refine z4 rfl (fun hb=>?_) (fun hb=>?_)
  ·have hlt:i<xs.length:=by simpa using hb
   obtain ⟨s,hs⟩:∃ s,xs[i]?=some s:=⟨_,List.getElem?_eq_getElem hlt⟩
   have hw:IntKind.i64.wrap ((i:Int) + 1)=((i + 1:Nat):Int):=by rw [z9 (by omega)];simp
   rw [z69 hs,idxFrom] at hq0
   repeat (first | refine nx ?_ | (refine z3 fun K hK=>?_;simp only [go_sem];apply hK;clear hK K))
   refine z3 fun K hK=>?_
   simp only [go_sem,hs,List.getElem?_map,Span.row,hw]
   refine ⟨_,.lent (hf:=hq s (List.mem_of_getElem? hs)) (hd:=z134 _ _ _ _ rfl) (hr:=rfl),?_⟩
   simp only [go_sem]
   apply hK
   clear hK K
   refine z4 rfl (fun hc=>?_) (fun hc=>?_)
   ·rw [hc,if_pos rfl] at hq0
    repeat (first | refine nx ?_ | (refine z3 fun K hK=>?_;simp only [go_sem];apply hK;clear hK K))
    simp only [go_sem,hq0]
   ·rw [hc] at hq0
    repeat (first | refine nx ?_ | (refine z3 fun K hK=>?_;simp only [go_sem,hw];apply hK;clear hK K))
    refine ⟨rfl,i + 1,?_,⟨hlt,hq0⟩,by omega⟩
    refine weA ?_ ?_ <;> simp
  ·have he:i=xs.length:=by have:¬ i<xs.length:=by simpa using hb
                           omega
   subst he
   repeat (first | refine nx ?_ | (refine z3 fun K hK=>?_;simp only [go_sem];apply hK;clear hK K))
   simp only [go_sem,hq0,List.drop_length,idxFrom]
theorem zf86 (xs:List (Path)) (g:Nat) (caps:List DV) (q:Path→Bool) (hq:∀ s ∈ xs,Fn Try.prog g (.agg s.row::caps) (.bool (q s))) (hl:xs.length<2 ^ 62):Fn Try.prog 86 [.sl (xs.map Path.row),.fn g caps] (.i (idxFrom q xs 0)):=by
 refine z12 19 Try.call86 Try.func86 rfl (by decide) fun J=>?_
 simp only [go_sem,St.start,Try.ntmps86,Try.results86]
 repeat (first | refine nx ?_ | (refine z3 fun K hK=>?_;simp only [go_sem];apply hK;clear hK K))
 refine z18 (fun (i:Nat)=>[(8,.d (.i i))]) (fun _=>[]) (fun i=>i≤xs.length∧idxFrom q xs 0=idxFrom q (xs.drop i) i) (fun i=>xs.length - i) 0 ?_ ⟨Nat.zero_le _,rfl⟩ ?_
 ·simp only [go_sem]
  refine weA ?_ ?_ <;> simp
 ·intro i ⟨hi,hq0⟩
  simp only [go_sem]
  repeat (first | refine nx ?_ | (refine z3 fun K hK=>?_;simp only [go_sem];apply hK;clear hK K))
  refine z4 rfl (fun hb=>?_) (fun hb=>?_)
  ·have hlt:i<xs.length:=by simpa using hb
   obtain ⟨s,hs⟩:∃ s,xs[i]?=some s:=⟨_,List.getElem?_eq_getElem hlt⟩
   have hw:IntKind.i64.wrap ((i:Int) + 1)=((i + 1:Nat):Int):=by rw [z9 (by omega)];simp
   rw [z69 hs,idxFrom] at hq0
   repeat (first | refine nx ?_ | (refine z3 fun K hK=>?_;simp only [go_sem];apply hK;clear hK K))
   refine z3 fun K hK=>?_
   simp only [go_sem,hs,List.getElem?_map,Path.row,hw]
   refine ⟨_,.lent (hf:=hq s (List.mem_of_getElem? hs)) (hd:=z134 _ _ _ _ rfl) (hr:=rfl),?_⟩
   simp only [go_sem]
   apply hK
   clear hK K
   refine z4 rfl (fun hc=>?_) (fun hc=>?_)
   ·rw [hc,if_pos rfl] at hq0
    repeat (first | refine nx ?_ | (refine z3 fun K hK=>?_;simp only [go_sem];apply hK;clear hK K))
    simp only [go_sem,hq0]
   ·rw [hc] at hq0
    repeat (first | refine nx ?_ | (refine z3 fun K hK=>?_;simp only [go_sem,hw];apply hK;clear hK K))
    refine ⟨rfl,i + 1,?_,⟨hlt,hq0⟩,by omega⟩
    refine weA ?_ ?_ <;> simp
  ·have he:i=xs.length:=by have:¬ i<xs.length:=by simpa using hb
                           omega
   subst he
   repeat (first | refine nx ?_ | (refine z3 fun K hK=>?_;simp only [go_sem];apply hK;clear hK K))
   simp only [go_sem,hq0,List.drop_length,idxFrom]
theorem zf70 (xs:List (Int)) (g:Nat) (caps:List DV) (q:Int→Bool) (hq:∀ s ∈ xs,Fn Try.prog g (.i s::caps) (.bool (q s))) (hl:xs.length<2 ^ 62):Fn Try.prog 70 [.sl (xs.map (fun x=>[.i x])),.fn g caps] (.i (idxFrom q xs 0)):=by
 refine z12 19 Try.call70 Try.func70 rfl (by decide) fun J=>?_
 simp only [go_sem,St.start,Try.ntmps70,Try.results70]
 repeat (first | refine nx ?_ | (refine z3 fun K hK=>?_;simp only [go_sem];apply hK;clear hK K))
 refine z18 (fun (i:Nat)=>[(8,.d (.i i))]) (fun _=>[]) (fun i=>i≤xs.length∧idxFrom q xs 0=idxFrom q (xs.drop i) i) (fun i=>xs.length - i) 0 ?_ ⟨Nat.zero_le _,rfl⟩ ?_
 ·simp only [go_sem]
  refine weA ?_ ?_ <;> simp
 ·intro i ⟨hi,hq0⟩
  simp only [go_sem]
  repeat (first | refine nx ?_ | (refine z3 fun K hK=>?_;simp only [go_sem];apply hK;clear hK K))
  refine z4 rfl (fun hb=>?_) (fun hb=>?_)
  ·have hlt:i<xs.length:=by simpa using hb
   obtain ⟨s,hs⟩:∃ s,xs[i]?=some s:=⟨_,List.getElem?_eq_getElem hlt⟩
   have hw:IntKind.i64.wrap ((i:Int) + 1)=((i + 1:Nat):Int):=by rw [z9 (by omega)];simp
   rw [z69 hs,idxFrom] at hq0
   repeat (first | refine nx ?_ | (refine z3 fun K hK=>?_;simp only [go_sem];apply hK;clear hK K))
   refine z3 fun K hK=>?_
   simp only [go_sem,hs,List.getElem?_map,hw]
   refine ⟨_,.lent (hf:=hq s (List.mem_of_getElem? hs)) (hd:=z134 _ _ _ _ rfl) (hr:=rfl),?_⟩
   simp only [go_sem]
   apply hK
   clear hK K
   refine z4 rfl (fun hc=>?_) (fun hc=>?_)
   ·rw [hc,if_pos rfl] at hq0
    repeat (first | refine nx ?_ | (refine z3 fun K hK=>?_;simp only [go_sem];apply hK;clear hK K))
    simp only [go_sem,hq0]
   ·rw [hc] at hq0
    repeat (first | refine nx ?_ | (refine z3 fun K hK=>?_;simp only [go_sem,hw];apply hK;clear hK K))
    refine ⟨rfl,i + 1,?_,⟨hlt,hq0⟩,by omega⟩
    refine weA ?_ ?_ <;> simp
  ·have he:i=xs.length:=by have:¬ i<xs.length:=by simpa using hb
                           omega
   subst he
   repeat (first | refine nx ?_ | (refine z3 fun K hK=>?_;simp only [go_sem];apply hK;clear hK K))
   simp only [go_sem,hq0,List.drop_length,idxFrom]
theorem zf26 (xs:List (List Int)) (g:Nat) (caps:List DV) (q:List Int→Bool) (hq:∀ s ∈ xs,Fn Try.prog g (.sl (s.map fun x=>[.i x])::caps) (.bool (q s))) (hl:xs.length<2 ^ 62):Fn Try.prog 26 [.sl (xs.map (fun l=>[.sl (l.map fun x=>[.i x])])),.fn g caps] (.i (idxFrom q xs 0)):=by
 refine z12 19 Try.call26 Try.func26 rfl (by decide) fun J=>?_
 simp only [go_sem,St.start,Try.ntmps26,Try.results26]
 repeat (first | refine nx ?_ | (refine z3 fun K hK=>?_;simp only [go_sem];apply hK;clear hK K))
 refine z18 (fun (i:Nat)=>[(8,.d (.i i))]) (fun _=>[]) (fun i=>i≤xs.length∧idxFrom q xs 0=idxFrom q (xs.drop i) i) (fun i=>xs.length - i) 0 ?_ ⟨Nat.zero_le _,rfl⟩ ?_
 ·simp only [go_sem]
  refine weA ?_ ?_ <;> simp
 ·intro i ⟨hi,hq0⟩
  simp only [go_sem]
  repeat (first | refine nx ?_ | (refine z3 fun K hK=>?_;simp only [go_sem];apply hK;clear hK K))
  refine z4 rfl (fun hb=>?_) (fun hb=>?_)
  ·have hlt:i<xs.length:=by simpa using hb
   obtain ⟨s,hs⟩:∃ s,xs[i]?=some s:=⟨_,List.getElem?_eq_getElem hlt⟩
   have hw:IntKind.i64.wrap ((i:Int) + 1)=((i + 1:Nat):Int):=by rw [z9 (by omega)];simp
   rw [z69 hs,idxFrom] at hq0
   repeat (first | refine nx ?_ | (refine z3 fun K hK=>?_;simp only [go_sem];apply hK;clear hK K))
   refine z3 fun K hK=>?_
   simp only [go_sem,hs,List.getElem?_map,hw]
   refine ⟨_,.lent (hf:=hq s (List.mem_of_getElem? hs)) (hd:=z134 _ _ _ _ rfl) (hr:=rfl),?_⟩
   simp only [go_sem]
   apply hK
   clear hK K
   refine z4 rfl (fun hc=>?_) (fun hc=>?_)
   ·rw [hc,if_pos rfl] at hq0
    repeat (first | refine nx ?_ | (refine z3 fun K hK=>?_;simp only [go_sem];apply hK;clear hK K))
    simp only [go_sem,hq0]
   ·rw [hc] at hq0
    repeat (first | refine nx ?_ | (refine z3 fun K hK=>?_;simp only [go_sem,hw];apply hK;clear hK K))
    refine ⟨rfl,i + 1,?_,⟨hlt,hq0⟩,by omega⟩
    refine weA ?_ ?_ <;> simp
  ·have he:i=xs.length:=by have:¬ i<xs.length:=by simpa using hb
                           omega
   subst he
   repeat (first | refine nx ?_ | (refine z3 fun K hK=>?_;simp only [go_sem];apply hK;clear hK K))
   simp only [go_sem,hq0,List.drop_length,idxFrom]
theorem zf81 (xs:List (Span)) (g:Nat) (caps:List DV) (q:Span→Bool) (hq:∀ s ∈ xs,Fn Try.prog g (.agg s.row::caps) (.bool (q s))) (hl:xs.length<2 ^ 62):Fn Try.prog 81 [.sl (xs.map Span.row),.fn g caps] (.bool (xs.any q)):=by
 refine z12 9 Try.call81 Try.func81 rfl (by decide) fun J=>?_
 simp only [go_sem,St.start,Try.ntmps81,Try.results81]
 repeat (first | refine nx ?_ | (refine z3 fun K hK=>?_;simp only [go_sem];(repeat (first | (refine ⟨_,.lent (hf:=zf85 xs g caps q hq hl) (hd:=rfl) (hr:=rfl),?_⟩;simp only [go_sem]) | (refine ⟨_,.given (hf:=zf85 xs g caps q hq hl) (hd:=rfl) (ha:=rfl),?_⟩;simp only [go_sem])));apply hK;clear hK K))
 simp only [go_sem,z66]
theorem zf82 (xs:List (Path)) (g:Nat) (caps:List DV) (q:Path→Bool) (hq:∀ s ∈ xs,Fn Try.prog g (.agg s.row::caps) (.bool (q s))) (hl:xs.length<2 ^ 62):Fn Try.prog 82 [.sl (xs.map Path.row),.fn g caps] (.bool (xs.any q)):=by
 refine z12 9 Try.call82 Try.func82 rfl (by decide) fun J=>?_
 simp only [go_sem,St.start,Try.ntmps82,Try.results82]
 repeat (first | refine nx ?_ | (refine z3 fun K hK=>?_;simp only [go_sem];(repeat (first | (refine ⟨_,.lent (hf:=zf86 xs g caps q hq hl) (hd:=rfl) (hr:=rfl),?_⟩;simp only [go_sem]) | (refine ⟨_,.given (hf:=zf86 xs g caps q hq hl) (hd:=rfl) (ha:=rfl),?_⟩;simp only [go_sem])));apply hK;clear hK K))
 simp only [go_sem,z66]
theorem zf51 (xs:List (Int)) (g:Nat) (caps:List DV) (q:Int→Bool) (hq:∀ s ∈ xs,Fn Try.prog g (.i s::caps) (.bool (q s))) (hl:xs.length<2 ^ 62):Fn Try.prog 51 [.sl (xs.map fun x=>[.i x]),.fn g caps] (.bool (xs.any q)):=by
 refine z12 9 Try.call51 Try.func51 rfl (by decide) fun J=>?_
 simp only [go_sem,St.start,Try.ntmps51,Try.results51]
 repeat (first | refine nx ?_ | (refine z3 fun K hK=>?_;simp only [go_sem];(repeat (first | (refine ⟨_,.lent (hf:=zf70 xs g caps q hq hl) (hd:=rfl) (hr:=rfl),?_⟩;simp only [go_sem]) | (refine ⟨_,.given (hf:=zf70 xs g caps q hq hl) (hd:=rfl) (ha:=rfl),?_⟩;simp only [go_sem])));apply hK;clear hK K))
 simp only [go_sem,z66]
end Go.Ab
namespace Go.Ab
open Go.RowKit Go.Proofs
def latestF (opens:List Span) (b:Int):Int:=opens.foldl (fun last s=>if s.lo≤b then max last (min s.hi b) else last) (-1)
theorem zf31 (n:Net) (p:Party) (i:Nat) (x:Path) (b:Int) (hx:n.paths[i]?=some x) (hl:x.opens.length<2 ^ 62):Fn Try.prog 31 [.agg (walkCells n p),.i i,.i b] (.i (latestF x.opens (wr (b - (spanW x p).hi)))):=by
 refine z12 40 Try.call31 Try.func31 rfl (by decide) fun J=>?_
 simp only [go_sem,St.start,Try.ntmps31,Try.results31,walkCells]
 repeat (first | refine nx ?_ | (refine z3 fun K hK=>?_;simp only [go_sem,hx,List.getElem?_map,Path.row,Span.row];(repeat (first | (refine ⟨_,.lent (hf:=z1165 n p i x hx) (hd:=rfl) (hr:=rfl),?_⟩;simp only [go_sem,hx,List.getElem?_map,Path.row,Span.row]) | (refine ⟨_,.given (hf:=z1165 n p i x hx) (hd:=rfl) (ha:=rfl),?_⟩;simp only [go_sem,hx,List.getElem?_map,Path.row,Span.row])));apply hK;clear hK K))
 refine z18 (fun (j:Nat)=>[(7,.d (.i (latestF (x.opens.take j) (wr (b - (spanW x p).hi))))),(24,.d (.i j))]) (fun _=>[]) (fun j=>j≤x.opens.length) (fun j=>x.opens.length - j) 0 ?_ (Nat.zero_le _) ?_
 ·simp only [go_sem]
  refine weA ?_ ?_ <;> simp
  rfl
 ·intro j hj
  simp only [go_sem]
  repeat (first | refine nx ?_ | (refine z3 fun K hK=>?_;simp only [go_sem];apply hK;clear hK K))
  refine z4 rfl (fun hb=>?_) (fun hb=>?_)
  ·have hlt:j<x.opens.length:=by simpa using hb
   obtain ⟨s,hs⟩:∃ s,x.opens[j]?=some s:=⟨_,List.getElem?_eq_getElem hlt⟩
   have hw:IntKind.i64.wrap ((j:Int) + 1)=((j + 1:Nat):Int):=by rw [z9 (by omega)];simp
   have hn:latestF (x.opens.take (j + 1)) (wr (b - (spanW x p).hi))=if s.lo≤wr (b - (spanW x p).hi) then max (latestF (x.opens.take j) (wr (b - (spanW x p).hi))) (min s.hi (wr (b - (spanW x p).hi))) else latestF (x.opens.take j) (wr (b - (spanW x p).hi)):=z40 _ _ _ _ _ hs
   repeat (first | refine nx ?_ | (refine z3 fun K hK=>?_;simp only [go_sem,hs,List.getElem?_map,Span.row,hw];apply hK;clear hK K))
   refine z4 rfl (fun hc=>?_) (fun hc=>?_)
   ·have hc:s.lo≤wr (b - (spanW x p).hi):=by simpa using hc
    repeat (first | refine nx ?_ | (refine z3 fun K hK=>?_;simp only [go_sem,hs,List.getElem?_map,Span.row,hw];apply hK;clear hK K))
    refine ⟨rfl,j + 1,?_,hlt,by omega⟩
    rw [hn,if_pos hc]
    refine weA ?_ ?_ <;> simp
   ·have hc:¬ s.lo≤wr (b - (spanW x p).hi):=by simpa using hc
    repeat (first | refine nx ?_ | (refine z3 fun K hK=>?_;simp only [go_sem,hs,List.getElem?_map,Span.row,hw];apply hK;clear hK K))
    refine ⟨rfl,j + 1,?_,hlt,by omega⟩
    rw [hn,if_neg hc]
    refine weA ?_ ?_ <;> simp
  ·have he:j=x.opens.length:=by have:¬ j<x.opens.length:=by simpa using hb
                                omega
   subst he
   repeat (first | refine nx ?_ | (refine z3 fun K hK=>?_;simp only [go_sem];apply hK;clear hK K))
   simp only [go_sem,List.take_length]
def arriveF (opens:List Span) (t time:Int):Int:=if wr (enterF opens t + time) > 2880 then 1073741824 else wr (enterF opens t + time)
theorem z1197 (n:Net) (p:Party) (i:Nat) (x:Path) (t time:Int) (hx:n.paths[i]?=some x) (hl:x.opens.length<2 ^ 62):Fn Try.prog 32 [.agg (walkCells n p),.i i,.i t,.i time] (.i (arriveF x.opens t time)):=by
 refine z12 42 Try.call32 Try.func32 rfl (by decide) fun J=>?_
 simp only [go_sem,St.start,Try.ntmps32,Try.results32,walkCells]
 repeat (first | refine nx ?_ | (refine z3 fun K hK=>?_;simp only [go_sem,hx,List.getElem?_map,Path.row];apply hK;clear hK K))
 refine z18 (fun (j:Nat)=>[(9,.d (.i (enterF (x.opens.take j) t))),(20,.d (.i j))]) (fun _=>[]) (fun j=>j≤x.opens.length) (fun j=>x.opens.length - j) 0 ?_ (Nat.zero_le _) ?_
 ·simp only [go_sem]
  refine weA ?_ ?_ <;> simp
  rfl
 ·intro j hj
  simp only [go_sem]
  repeat (first | refine nx ?_ | (refine z3 fun K hK=>?_;simp only [go_sem];apply hK;clear hK K))
  refine z4 rfl (fun hb=>?_) (fun hb=>?_)
  ·have hlt:j<x.opens.length:=by simpa using hb
   obtain ⟨s,hs⟩:∃ s,x.opens[j]?=some s:=⟨_,List.getElem?_eq_getElem hlt⟩
   have hw:IntKind.i64.wrap ((j:Int) + 1)=((j + 1:Nat):Int):=by rw [z9 (by omega)];simp
   have hn:enterF (x.opens.take (j + 1)) t=if t≤s.hi then min (enterF (x.opens.take j) t) (max t s.lo) else enterF (x.opens.take j) t:=z40 _ _ _ _ _ hs
   repeat (first | refine nx ?_ | (refine z3 fun K hK=>?_;simp only [go_sem,hs,List.getElem?_map,Span.row,hw];apply hK;clear hK K))
   refine z4 rfl (fun hc=>?_) (fun hc=>?_)
   ·have hc:t≤s.hi:=by simpa using hc
    repeat (first | refine nx ?_ | (refine z3 fun K hK=>?_;simp only [go_sem,hs,List.getElem?_map,Span.row,hw];apply hK;clear hK K))
    refine ⟨rfl,j + 1,?_,hlt,by omega⟩
    rw [hn,if_pos hc]
    refine weA ?_ ?_ <;> simp
   ·have hc:¬ t≤s.hi:=by simpa using hc
    repeat (first | refine nx ?_ | (refine z3 fun K hK=>?_;simp only [go_sem,hs,List.getElem?_map,Span.row,hw];apply hK;clear hK K))
    refine ⟨rfl,j + 1,?_,hlt,by omega⟩
    rw [hn,if_neg hc]
    refine weA ?_ ?_ <;> simp
  ·have he:j=x.opens.length:=by have:¬ j<x.opens.length:=by simpa using hb
                                omega
   subst he
   repeat (first | refine nx ?_ | (refine z3 fun K hK=>?_;simp only [go_sem,List.take_length];apply hK;clear hK K))
   refine z4 rfl (fun hc=>?_) (fun hc=>?_)
   ·have hc:wr (enterF x.opens t + time) > 2880:=by simpa using hc
    repeat (first | refine nx ?_ | (refine z3 fun K hK=>?_;simp only [go_sem,List.take_length];apply hK;clear hK K))
    simp only [go_sem,arriveF,hc]
   ·have hc:¬ wr (enterF x.opens t + time) > 2880:=by simpa using hc
    repeat (first | refine nx ?_ | (refine z3 fun K hK=>?_;simp only [go_sem,List.take_length];apply hK;clear hK K))
    simp only [go_sem,arriveF,hc]
def stepF (x:Path) (p:Party) (t:Int) (high:Bool):Int :=
 if enterF x.opens t ≥ 1073741824 then 1073741824 else
  let a:=wr (enterF x.opens t + if high then (spanW x p).hi else (spanW x p).lo)
  if a > 2880 then 1073741824 else a
end Go.Ab
namespace Go.Ab
open Go.RowKit Go.Proofs
def waysFrom (p:Party) (but:Int):List Path→Nat→List (Nat × Path)
 | [],_=>[]
 | x::xs,i=>if (i:Int)≠but∧x.grade≤p.grade then (i,x)::waysFrom p but xs (i + 1) else waysFrom p but xs (i + 1)
def waysL (n:Net) (p:Party) (but:Int):List (Nat × Path):=waysFrom p but n.paths 0
def wayRow (x:Nat × Path):List DV:=[.i x.1,.agg x.2.row]
theorem z1134 (n:Net) (p:Party) (but:Int):Fn Try.prog 30 [.agg (walkCells n p),.i but] (.fn 56 [.ptr (walkCells n p) 0,.ptr [.i but] 0]):=by
 refine z12 6 Try.call30 Try.func30 rfl (by decide) fun J=>?_
 simp only [go_sem,St.start,Try.ntmps30,Try.results30,walkCells]
 repeat (first | refine nx ?_ | (refine z3 fun K hK=>?_;simp only [go_sem];apply hK;clear hK K))
 simp only [go_sem,walkCells]
theorem z859 (n:Net) (p:Party) (but:Int) (hl:n.paths.length<2 ^ 62):Iter Try.prog 56 [.ptr (walkCells n p) 0,.ptr [.i but] 0] ((waysL n p but).map wayRow):=by
 refine z1028 31 Try.call56 Try.func56 rfl rfl fun l J B hS hG=>?_
 simp only [go_sem,St.start,Try.ntmps56,walkCells]
 repeat (first | refine nx ?_ | (refine z3 fun K hK=>?_;simp only [go_sem];apply hK;clear hK K))
 refine z84 (fun (j:Nat)=>[(10,.d (.i j))]) (fun _=>[]) (fun k j=>j≤n.paths.length∧∃ kk,k=some kk∧kk≤(waysL n p but).length∧(waysL n p but).drop kk=waysFrom p but (n.paths.drop j) j) (fun j=>n.paths.length - j) 0 ?_ ⟨Nat.zero_le _,0,rfl,Nat.zero_le _,rfl⟩ ?_
 ·simp only [go_sem]
  refine weA ?_ ?_ <;> simp
 ·rintro k j ⟨hj,kk,rfl,hkk,hd⟩
  simp only [go_sem]
  repeat (first | refine nx ?_ | (refine z3 fun K hK=>?_;simp only [go_sem];apply hK;clear hK K))
  refine z4 rfl (fun hb=>?_) (fun hb=>?_)
  ·have hlt:j<n.paths.length:=by simpa using hb
   obtain ⟨x,hx⟩:∃ x,n.paths[j]?=some x:=⟨_,List.getElem?_eq_getElem hlt⟩
   have hw:IntKind.i64.wrap ((j:Int) + 1)=((j + 1:Nat):Int):=by rw [z9 (by omega)];simp
   rw [z69 hx,waysFrom] at hd
   have h74:=zf57 n p j x hx
   repeat (first | refine nx ?_ | (refine z3 fun K hK=>?_;simp only [go_sem,hx,List.getElem?_map,Path.row];apply hK;clear hK K))
   refine z473 hS hG fun K hK=>?_
   by_cases hbut:(j:Int)=but
   ·have hbe:((j:Int) != but)=false:=by simp [hbut]
    rw [if_neg (by simp [hbut])] at hd
    simp only [go_sem,hbe]
    refine hK _ _ ?_
    clear hK K
    refine z7 rfl ?_
    repeat (first | refine nx ?_ | (refine z3 fun K hK=>?_;simp only [go_sem,hw];apply hK;clear hK K))
    refine ⟨j + 1,?_,⟨hlt,kk,rfl,hkk,hd⟩,by omega⟩
    refine weA ?_ ?_ <;> simp
   ·have hbe:((j:Int) != but)=true:=by simpa using hbut
    simp only [go_sem,hbe]
    refine ⟨_,.lent (hf:=h74) (hd:=rfl) (hr:=rfl),?_⟩
    by_cases hg:x.grade≤p.grade
    ·rw [if_pos ⟨hbut,hg⟩] at hd
     have hkl:kk<(waysL n p but).length:=by
      rcases Nat.lt_or_ge kk (waysL n p but).length with h | h
      ·exact h
      ·rw [List.drop_eq_nil_of_le h] at hd;cases hd
     have hget:(waysL n p but)[kk]?=some (j,x):=by
      have:=congrArg (fun l=>l[0]?) hd
      simpa using this
     have hd2:(waysL n p but).drop (kk + 1)=waysFrom p but (n.paths.drop (j + 1)) (j + 1):=by
      have:=congrArg (List.drop 1) hd
      simpa [Nat.add_comm] using this
     simp only [go_sem,hg]
     refine ⟨rfl,kk,wayRow (j,x),rfl,rfl,by rw [List.getElem?_map,hget];rfl,?_,?_⟩
     ·simp only [go_sem]
      refine hK _ _ ?_
      clear hK K
      refine z7 rfl ?_
      repeat (first | refine nx ?_ | (refine z3 fun K hK=>?_;simp only [go_sem,hw];apply hK;clear hK K))
      refine ⟨j + 1,?_,⟨hlt,kk + 1,rfl,hkl,hd2⟩,by omega⟩
      refine weA ?_ ?_ <;> simp
     ·simp only [go_sem]
      refine hK _ _ ?_
      clear hK K
      refine z10 rfl ?_
      repeat (first | refine nx ?_ | (refine z3 fun K hK=>?_;simp only [go_sem];apply hK;clear hK K))
      exact ⟨trivial,.inr rfl⟩
    ·rw [if_neg (by simp [hg])] at hd
     simp only [go_sem,hg]
     refine hK _ _ ?_
     clear hK K
     refine z7 rfl ?_
     repeat (first | refine nx ?_ | (refine z3 fun K hK=>?_;simp only [go_sem,hw];apply hK;clear hK K))
     refine ⟨j + 1,?_,⟨hlt,kk,rfl,hkk,hd⟩,by omega⟩
     refine weA ?_ ?_ <;> simp
  ·have he:j=n.paths.length:=by have:¬ j<n.paths.length:=by simpa using hb
                                omega
   subst he
   repeat (first | refine nx ?_ | (refine z3 fun K hK=>?_;simp only [go_sem];apply hK;clear hK K))
   refine ⟨trivial,.inl ?_⟩
   rw [List.drop_length,waysFrom,List.drop_eq_nil_iff] at hd
   simp only [List.length_map,Option.some.injEq]
   omega
end Go.Ab
namespace Go.Ab
open Go.RowKit Go.Proofs
theorem z1099 (m:Nat) (h:m<2 ^ 32):bAnd .u64 (m:Int) 4294967295=(m:Int):=by
 have h1:(BitVec.ofInt 64 (m:Int) &&& BitVec.ofInt 64 4294967295).toNat=m:=by
  rw [BitVec.toNat_and]
  have e1:(BitVec.ofInt 64 (m:Int)).toNat=m:=by simp [BitVec.toNat_ofInt];omega
  have e2:(BitVec.ofInt 64 4294967295).toNat=2 ^ 32 - 1:=by decide
  rw [e1,e2,Nat.and_two_pow_sub_one_eq_mod,Nat.mod_eq_of_lt h]
 show IntKind.u64.wrap ((BitVec.ofInt 64 (m:Int) &&& BitVec.ofInt 64 4294967295).toNat:Int)=(m:Int)
 rw [h1,IntKind.wrap_u64]
 omega
theorem z846 (m:Nat) (h:m<2 ^ 63):IntKind.u64.wrap (m:Int)=(m:Int):=by rw [IntKind.wrap_u64];omega
theorem zf72 (m:Nat) (h:m<2 ^ 32):Fn Try.prog 72 [.int .u64 1,.int .u64 m] (.tup [.int .u64 0,.int .u64 m]):=by
 refine z12 51 Try.call72 Try.func72 rfl (by decide) fun J=>?_
 simp only [go_sem,St.start,Try.ntmps72,Try.results72]
 have h1:bAnd .u64 1 4294967295=1:=by decide
 have h2:bAnd .u64 (m:Int) 4294967295=m:=z1099 m h
 have h3:IntKind.u64.wrap (m:Int)=m:=z846 m (by omega)
 have h4:bShr .u64 (m:Int) 32=0:=by
  show Int.fdiv (m:Int) 4294967296=0
  rw [Int.fdiv_eq_ediv_of_nonneg _ (by omega)]
  omega
 have h5:bShr .u64 1 32=0:=by decide
 have h6:bShr .u64 0 32=0:=by decide
 have h7:IntKind.u64.wrap (0:Int)=0:=by decide
 have h8:bAnd .u64 0 4294967295=0:=by decide
 repeat (first | refine nx ?_ | (refine z3 fun K hK=>?_;simp only [go_sem,h1,h2,h3,h4,h5,h6,h7,h8,Int.one_mul,Int.mul_one,Int.zero_mul,Int.mul_zero,Int.add_zero,Int.zero_add];apply hK;clear hK K))
 simp only [go_sem]
theorem zf55 (m:Nat) (h:m<2 ^ 32):Fn Try.prog 55 [.int .u64 1,.int .u64 m] (.tup [.int .u64 0,.int .u64 m]):=by
 refine z12 30 Try.call55 Try.func55 rfl (by decide) fun J=>?_
 simp only [go_sem,St.start,Try.ntmps55,Try.results55]
 repeat (first | refine nx ?_ | (refine z3 fun K hK=>?_;simp only [go_sem];apply hK;clear hK K))
 refine z7 rfl ?_
 repeat (first | refine nx ?_ | (refine z3 fun K hK=>?_;simp only [go_sem];(repeat (first | (refine ⟨_,.lent (hf:=zf72 m h) (hd:=rfl) (hr:=rfl),?_⟩;simp only [go_sem]) | (refine ⟨_,.given (hf:=zf72 m h) (hd:=rfl) (ha:=rfl),?_⟩;simp only [go_sem])));apply hK;clear hK K))
 simp only [go_sem]
def filled (c:Int) (m i:Nat):List (List DV):=List.replicate i [.i c]++List.replicate (m - i) [.i 0]
theorem z963 (c:Int) (m i:Nat) (h:i≤m):(filled c m i).length=m:=by simp [filled];omega
theorem z217 (c:Int) (m i:Nat):(filled c m i).take i=List.replicate i [.i c]:=by simp [filled,List.take_append]
theorem z835 (c:Int) (m i k:Nat):(filled c m i).drop (i + k)=List.replicate (m - (i + k)) [.i 0]:=by
 simp only [filled,List.drop_append,List.length_replicate,List.drop_replicate]
 rw [show i - (i + k)=0 by omega,show i + k - i=k by omega,show m - i - k=m - (i + k) by omega]
 rfl
theorem z833 (c:Int) (m i k:Nat) (hk:k≤i):(filled c m i).take i++((List.replicate i [DV.i c]).take k++(filled c m i).drop (i + k))=filled c m (i + k):=by
 rw [z217,z835,List.take_replicate,show min k i=k by omega,← List.append_assoc,List.replicate_append_replicate]
 rfl
theorem z834 (c:Int) (m:Nat):List.take (min 1 m) [[DV.i c]]++List.drop (min 1 m) (List.replicate m [DV.i 0])=filled c m (min 1 m):=by
 rcases Nat.eq_zero_or_pos m with h | h
 ·subst h;rfl
 ·rw [show min 1 m=1 by omega]
  simp [filled]
attribute [go_sem] opCopyA
theorem zf29 (c:Int) (m:Nat) (h:m<2 ^ 30):FnS Try.prog 29 [.sl [[.i c]],.i m] 3 1 (List.replicate m [.i c]):=by
 refine z238 48 Try.call29 Try.func29 rfl (by decide) fun J=>?_
 simp only [go_sem,St.start,Try.ntmps29,Try.results29]
 have h1:¬ ((m:Int)<0):=by omega
 have h2:IntKind.u64.wrap (m:Int)=m:=z846 m (by omega)
 have h3:IntKind.i64.wrap (m:Int)=m:=z9 (by omega)
 have h4:¬ (9223372036854775807<(m:Int)):=by omega
 have h5:IntKind.u64.wrap (1:Int)=1:=by decide
 have h6:(m:Int)≤2 ^ 40:=by omega
 repeat (first | refine nx ?_ | (refine z3 fun K hK=>?_;simp only [go_sem,h1];apply hK;clear hK K))
 refine z7 rfl ?_
 repeat (first | refine nx ?_ | (refine z3 fun K hK=>?_;simp only [go_sem,h2,h5,h4,gt_iff_lt,Int.lt_irrefl];(repeat (first | (refine ⟨_,.lent (hf:=zf55 m (by omega)) (hd:=rfl) (hr:=rfl),?_⟩;simp only [go_sem,h2,h5,h4,gt_iff_lt,Int.lt_irrefl]) | (refine ⟨_,.given (hf:=zf55 m (by omega)) (hd:=rfl) (ha:=rfl),?_⟩;simp only [go_sem,h2,h5,h4,gt_iff_lt,Int.lt_irrefl])));apply hK;clear hK K))
 refine z7 rfl ?_
 have h7:(m:Int)≤1099511627776:=by omega
 repeat (first | refine nx ?_ | (refine z3 fun K hK=>?_;simp only [go_sem,h3,h7,h1];apply hK;clear hK K))
 refine z18 (fun (i:Nat)=>[(7,.own 30),(30,.own 30),(31,.own 30),(8,.d (.i i))]) (fun i=>[(30,some (.arr 3 1 (filled c m i)))]) (fun i=>i≤m∧(i=0→m=0)) (fun i=>m - i) (min 1 m) ?_ (by omega) ?_
 ·simp only [go_sem]
  rw [show List.take (min 1 m) [[DV.i c]]++List.drop (min 1 m) (List.replicate m [DV.int IntKind.i64 0])=filled c m (min 1 m) from z834 c m]
  refine weA ?_ ?_ <;> simp
 ·intro i ⟨hi,hi0⟩
  have hl:=z963 c m i hi
  simp only [go_sem]
  repeat (first | refine nx ?_ | (refine z3 fun K hK=>?_;simp only [go_sem,hl];apply hK;clear hK K))
  refine z4 rfl (fun hb=>?_) (fun hb=>?_)
  ·have hlt:i<m:=by simpa using hb
   have e1:(i:Int)≤(m:Int):=by omega
   have e2:i + (m - i)≤m:=by omega
   have e3:i≤m:=hi
   have e4:min i (m - i)≤i:=by omega
   have hs:=z833 c m i (min i (m - i)) e4
   have hw:IntKind.i64.wrap ((i:Int) + ((min i (m - i):Nat):Int))=((i + min i (m - i):Nat):Int):=by rw [z9 (by omega)];simp
   rw [z217] at hs
   have e5:∀ k,headIs 1 (List.replicate k [DV.i c])=true:=fun k=>by cases k <;> rfl
   repeat (first | refine nx ?_ | (refine z3 fun K hK=>?_;simp only [go_sem];apply hK;clear hK K))
   refine z6 (by kernel_rfl) (by kernel_rfl) fun K hK=>?_
   simp only [go_sem,hl,e1,e2,e3,hw,z217,Nat.sub_zero,List.drop_zero,hs]
   refine ⟨e5 i,by kernel_rfl,hK _ ?_⟩
   clear hK K
   repeat (first | refine nx ?_ | (refine z3 fun K hK=>?_;simp only [go_sem];apply hK;clear hK K))
   refine ⟨rfl,i + min i (m - i),?_,by omega,by omega⟩
   refine weA ?_ ?_ <;> simp
  ·have he:i=m:=by have:¬ i<m:=by simpa using hb
                   omega
   subst he
   repeat (first | refine nx ?_ | (refine z3 fun K hK=>?_;simp only [go_sem];apply hK;clear hK K))
   simp only [go_sem,filled,Nat.sub_self,List.replicate]
end Go.Ab
namespace Go.Ab
open Go.RowKit Go.Proofs
def intRows (l:List Int):List (List DV):=l.map fun x=>[.i x]
def getI (l:List Int) (i:Int):Int:=l.getD i.toNat 0
theorem z36 {l:List Int} {i:Int} (h0:0≤i) (h1:i.toNat<l.length):(intRows l)[i.toNat]?=some [.i (getI l i)]:=by
 simp [intRows,getI,h1]
theorem z16 (l:List Int):(intRows l).length=l.length:=by simp [intRows]
theorem z44 (l:List Int):rowsFlat (intRows l):=by
 intro r hr d hd
 obtain ⟨x,_,rfl⟩:=List.mem_map.1 hr
 simp at hd;subst hd;rfl
theorem z42 (l:List Int) (k:Nat) (x:Int):(intRows l).set k [.i x]=intRows (l.set k x):=by simp [intRows,List.map_set]
theorem z136 (m:Nat) (c:Int):List.replicate m [DV.i c]=intRows (List.replicate m c):=by simp [intRows]
structure Net.Ok (n:Net):Prop where
 places:0≤n.places∧n.places<2 ^ 20
 paths:n.paths.length<2 ^ 20
 frm:∀ x ∈ n.paths,0≤x.frm∧x.frm<n.places
 to:∀ x ∈ n.paths,0≤x.to∧x.to<n.places
 opens:∀ x ∈ n.paths,x.opens.length<2 ^ 20
theorem z99 (p:Party) (but:Int):∀ (l:List Path) (i:Nat) (w:Nat × Path),w ∈ waysFrom p but l i→i≤w.1∧l[w.1 - i]?=some w.2∧w.2.grade≤p.grade∧(w.1:Int)≠but
 | [],_,_,h=>by simp [waysFrom] at h
 | x::xs,i,w,h=>by
  unfold waysFrom at h
  split at h
  ·rename_i hc
   rcases List.mem_cons.1 h with rfl | h
   ·exact ⟨Nat.le_refl _,by simp,hc.2,hc.1⟩
   ·obtain ⟨h1,h2,h3,h4⟩:=z99 p but xs (i + 1) w h
    exact ⟨by omega,by rw [show w.1 - i=(w.1 - (i + 1)) + 1 by omega];simpa using h2,h3,h4⟩
  ·obtain ⟨h1,h2,h3,h4⟩:=z99 p but xs (i + 1) w h
   exact ⟨by omega,by rw [show w.1 - i=(w.1 - (i + 1)) + 1 by omega];simpa using h2,h3,h4⟩
theorem z56 {n:Net} {p:Party} {but:Int} {w:Nat × Path} (h:w ∈ waysL n p but):n.paths[w.1]?=some w.2:=by
 have:=(z99 p but n.paths 0 w h).2.1
 simpa using this
def relaxD (p:Party) (a:List Int × Bool) (w:Nat × Path):List Int × Bool :=
 let t:=latestF w.2.opens (wr (getI a.1 w.2.to - (spanW w.2 p).hi))
 if t > getI a.1 w.2.frm then (a.1.set w.2.frm.toNat t,true) else a
def passD (n:Net) (p:Party) (l:List Int):List Int × Bool:=(waysL n p (-1)).foldl (relaxD p) (l,false)
end Go.Ab
namespace Go.Ab
open Go.RowKit Go.Proofs
def riseM (l:List Int):Nat:=(l.map fun x=>(2881 - x).toNat).sum
theorem z445 (b:Int):∀ (opens:List Span) (last:Int),last≤2880→(∀ s ∈ opens,s.hi≤2880)→opens.foldl (fun last s=>if s.lo≤b then max last (min s.hi b) else last) last≤2880
 | [],last,h,_=>h
 | s::opens,last,h,hs=>by
  rw [List.foldl_cons]
  refine z445 b opens _ ?_ (fun s' h'=>hs s' (List.mem_cons_of_mem _ h'))
  have:=hs s (List.mem_cons_self ..)
  split <;> omega
def fixD (n:Net) (p:Party):Nat→List Int→List Int
 | 0,l=>l
 | k + 1,l=>if (passD n p l).2 then fixD n p k (passD n p l).1 else (passD n p l).1
def deadlines0 (n:Net) (to b:Int):List Int:=(List.replicate n.places.toNat (-1)).set to.toNat b
def deadlinesL (n:Net) (p:Party) (to b:Int):List Int:=fixD n p (riseM (deadlines0 n to b) + 1) (deadlines0 n to b)
end Go.Ab
namespace Go.Ab
open Go.RowKit Go.Proofs
attribute [local irreducible] WalkL Walk
theorem z70 {P:Program} {rd:Option Nat} {n:Nat} {J:Env} {c:Code} {cs:List Code} {k:Option Nat} {st:St} {Q:Exit→Option Nat→St→Prop} (ds:List Nat) (hw:Weak st (st.head ds [] [])) (h:WalkL P rd n J (c::cs) k (st.head ds [] []) Q) :
  WalkL P rd n J (c::cs) k st Q:=z60 hw h
end Go.Ab
namespace Go.Ab
open Go.RowKit Go.Proofs
attribute [local irreducible] WalkL Walk
def never:Int:=1073741824
def relaxA (p:Party) (q:Span→Int) (a:List Int × Bool) (w:Nat × Path):List Int × Bool :=
 if getI a.1 w.2.frm=never then a else
  let t:=arriveF w.2.opens (getI a.1 w.2.frm) (q (spanW w.2 p))
  if t<getI a.1 w.2.to then (a.1.set w.2.to.toNat t,true) else a
def passA (n:Net) (p:Party) (q:Span→Int) (but:Int) (l:List Int):List Int × Bool:=(waysL n p but).foldl (relaxA p q) (l,false)
theorem z432 (p:Party) (q:Span→Int) (a:List Int × Bool) (w:Nat × Path):(relaxA p q a w).1.length=a.1.length:=by
 unfold relaxA
 split
 ·rfl
 ·dsimp only;split <;> simp
theorem z183 (p:Party) (q:Span→Int):∀ (ws:List (Nat × Path)) (a:List Int × Bool),(ws.foldl (relaxA p q) a).1.length=a.1.length
 | [],_=>rfl
 | w::ws,a=>by rw [List.foldl_cons,z183 p q ws,z432]
def fallM (l:List Int):Nat:=(l.map fun x=>(x + 9223372036854775809).toNat).sum
theorem z683:∀ (l:List Int) (k:Nat) (t x:Int),l[k]?=some x→t<x→-9223372036854775808≤t→fallM (l.set k t)<fallM l
 | [],_,_,_,h,_,_=>by simp at h
 | a::l,0,t,x,h,h1,h2=>by
  simp at h;subst h
  simp only [fallM,List.set_cons_zero,List.map_cons,List.sum_cons]
  omega
 | a::l,k + 1,t,x,h,h1,h2=>by
  have:=z683 l k t x (by simpa using h) h1 h2
  simp only [fallM,List.set_cons_succ,List.map_cons,List.sum_cons] at this ⊢
  omega
theorem z1168 (x:Int):-9223372036854775808≤wr x:=by
 show -9223372036854775808≤IntKind.i64.wrap x
 rw [IntKind.wrap_i64];omega
theorem z841 (opens:List Span) (t d:Int):-9223372036854775808≤arriveF opens t d:=by
 unfold arriveF;split
 ·omega
 ·exact z1168 _
theorem z831 (p:Party) (q:Span→Int):∀ (ws:List (Nat × Path)) (a:List Int × Bool),(∀ w ∈ ws,w.2.to.toNat<a.1.length) →
  fallM (ws.foldl (relaxA p q) a).1≤fallM a.1∧(a.2=false→(ws.foldl (relaxA p q) a).2=true→fallM (ws.foldl (relaxA p q) a).1<fallM a.1)
 | [],a,_=>⟨Nat.le_refl _,fun h1 h2=>by simp only [List.foldl_nil] at h2;rw [h1] at h2;cases h2⟩
 | w::ws,a,h=>by
  have h2:=h w (List.mem_cons_self ..)
  have ih:=z831 p q ws (relaxA p q a w) (fun w' h'=>by rw [z432];exact h w' (List.mem_cons_of_mem _ h'))
  rw [List.foldl_cons]
  by_cases hn:getI a.1 w.2.frm=never
  ·have he:relaxA p q a w=a:=by unfold relaxA;rw [if_pos hn]
   rw [he] at ih ⊢;exact ih
  ·by_cases hc:arriveF w.2.opens (getI a.1 w.2.frm) (q (spanW w.2 p))<getI a.1 w.2.to
   ·have he:relaxA p q a w=(a.1.set w.2.to.toNat (arriveF w.2.opens (getI a.1 w.2.frm) (q (spanW w.2 p))),true):=by unfold relaxA;rw [if_neg hn];dsimp only;rw [if_pos hc]
    have hlt:fallM (relaxA p q a w).1<fallM a.1:=by
     rw [he]
     exact z683 a.1 _ _ (getI a.1 w.2.to) (by simp [getI,h2]) hc (z841 _ _ _)
    exact ⟨by omega,fun _ _=>by omega⟩
   ·have he:relaxA p q a w=a:=by unfold relaxA;rw [if_neg hn];dsimp only;rw [if_neg hc]
    rw [he] at ih ⊢;exact ih
def fixA (n:Net) (p:Party) (q:Span→Int) (but:Int):Nat→List Int→List Int
 | 0,l=>l
 | k + 1,l=>if (passA n p q but l).2 then fixA n p q but k (passA n p q but l).1 else (passA n p q but l).1
def arrivals0 (n:Net) (frm start:Int):List Int:=(List.replicate n.places.toNat never).set frm.toNat start
def arrivalsL (n:Net) (p:Party) (q:Span→Int) (frm start but:Int):List Int:=fixA n p q but (fallM (arrivals0 n frm start) + 1) (arrivals0 n frm start)
end Go.Ab
namespace Go.Ab
open Go.RowKit Go.Proofs
attribute [local irreducible] WalkL Walk
theorem z1198 (n:Net) (p:Party) (frm start but:Int) (g:Nat) (q:Span→Int) (hq:∀ s,Fn Try.prog g [.agg s.row] (.i (q s))) (hn:n.Ok) (hfr:0≤frm∧frm<n.places) :
  FnS Try.prog 24 [.agg (walkCells n p),.i frm,.i start,.i but,.fn g []] 3 1 (intRows (arrivalsL n p q frm start but)):=by
 obtain ⟨m,hm⟩:∃ m:Nat,n.places=m:=⟨n.places.toNat,by have:=hn.places.1;omega⟩
 have hpl:=hn.places
 refine z238 64 Try.call24 Try.func24 rfl (by decide) fun J=>?_
 simp only [go_sem,St.start,Try.ntmps24,Try.results24,walkCells]
 refine z33 ?_
 refine z3 fun K hK=>?_
 simp only [go_sem]
 apply hK
 clear hK K
 refine z33 ?_
 refine z3 fun K hK=>?_
 have h47:FnS Try.prog 29 [.sl [[.i 1073741824]],.i n.places] 3 1 (List.replicate m [.i 1073741824]):=by rw [hm];exact zf29 1073741824 m (by omega)
 simp only [go_sem]
 refine ⟨_,.lentS (hdst:=rfl) (hf:=h47) (hd:=rfl) (hr:=by intro r hr d hd;rw [List.eq_of_mem_replicate hr] at hd;simp at hd;subst hd;rfl) (hfr:=rfl),?_⟩
 simp only [go_sem]
 apply hK
 clear hK K
 have hlt:frm.toNat<m:=by omega
 have hset:(List.replicate m [DV.int IntKind.i64 1073741824]).set frm.toNat [DV.i start]=intRows (arrivals0 n frm start):=by
  rw [show List.replicate m [DV.int IntKind.i64 1073741824]=intRows (List.replicate m 1073741824) from z136 m 1073741824,z42,arrivals0,hm];rfl
 have hget:(List.replicate m [DV.int IntKind.i64 1073741824])[frm.toNat]?=some [DV.int IntKind.i64 1073741824]:=by simp [hlt]
 repeat (first | refine nx ?_ | (refine z3 fun K hK=>?_;simp only [go_sem,hlt,hget,hset,hfr.1];apply hK;clear hK K))
 refine z18 (fun (a:List Int × Bool × Nat)=>[(12,.box 12 0)]) (fun a=>[(12,some (.box [.d (.bool a.2.1)])),(20,some (.arr 3 1 (intRows a.1)))])
  (fun a=>a.1.length=m∧arrivalsL n p q frm start but=(if a.2.1 then fixA n p q but a.2.2 a.1 else a.1)∧(a.2.1=true→fallM a.1<a.2.2)) (fun a=>if a.2.1 then a.2.2 + 1 else 0) (arrivals0 n frm start,true,fallM (arrivals0 n frm start) + 1) ?_ ⟨by simp [arrivals0,hm],by simp [arrivalsL],fun _=>by simp⟩ ?_
 ·simp only [go_sem]
  refine weA ?_ ?_ <;> simp
 ·rintro ⟨l,ch,k⟩ ⟨h1,h2,h3⟩
  dsimp only at h1 h2 h3
  simp only [go_sem]
  repeat (first | refine nx ?_ | (refine z3 fun K hK=>?_;simp only [go_sem];apply hK;clear hK K))
  refine z4 rfl (fun hb=>?_) (fun hb=>?_)
  ·subst hb
   repeat (first | refine nx ?_ | (refine z3 fun K hK=>?_;simp only [go_sem];apply hK;clear hK K))
   refine z3 fun K hK=>?_
   simp only [go_sem]
   refine ⟨_,.given (hf:=z1134 n p but) (hd:=rfl) (ha:=rfl),?_⟩
   simp only [go_sem]
   apply hK
   clear hK K
   repeat (first | refine nx ?_ | (refine z3 fun K hK=>?_;simp only [go_sem];apply hK;clear hK K))
   refine z126 (g:=.tmp 28) rfl (z859 n p but (by have:=hn.paths;omega)) (by intro row hr;obtain ⟨w,_,rfl⟩:=List.mem_map.1 hr;rfl) (fun _=>[]) (fun (a:List Int × Bool)=>[(12,some (.box [.d (.bool a.2)])),(20,some (.arr 3 1 (intRows a.1)))])
    (fun i a=>a=((waysL n p but).take i).foldl (relaxA p q) (l,false)) (fun _ _=>False) (l,false) ?_ rfl ?_ ?_ (fun _ _ h=>h.elim)
   ·simp only [go_sem]
    refine weA ?_ ?_ <;> simp
   ·intro i a row hi ha l2 m2
    simp only [List.getElem?_map,Option.map_eq_some_iff] at hi
    obtain ⟨w,hw,rfl⟩:=hi
    have hx:=z56 (List.mem_of_getElem? hw)
    have hmem:=List.mem_of_getElem? hx
    have hlen:a.1.length=m:=by rw [ha,z183];exact h1
    have hf:=hn.frm w.2 hmem
    have ht:=hn.to w.2 hmem
    have g1:(intRows a.1)[w.2.to.toNat]?=some [.i (getI a.1 w.2.to)]:=z36 ht.1 (by omega)
    have g2:(intRows a.1)[w.2.frm.toNat]?=some [.i (getI a.1 w.2.frm)]:=z36 hf.1 (by omega)
    have g3:w.2.to.toNat<(intRows a.1).length:=by rw [z16];omega
    have g4:w.2.frm.toNat<(intRows a.1).length:=by rw [z16];omega
    have h50:=z1197 n p w.1 w.2 (getI a.1 w.2.frm) (q (spanW w.2 p)) hx (by have:=hn.opens w.2 hmem;omega)
    have h51:=z1165 n p w.1 w.2 hx
    have hnext:((waysL n p but).take (i + 1)).foldl (relaxA p q) (l,false)=relaxA p q a w:=by rw [ha];exact z40 _ _ _ _ _ hw
    simp only [go_sem,wayRow,Path.row]
    repeat (first | refine nx ?_ | (refine z3 fun K hK=>?_;simp only [go_sem,g1,g2,g3,g4,ht.1,hf.1];apply hK;clear hK K))
    refine z4 rfl (fun hc=>?_) (fun hc=>?_)
    ·have hc:getI a.1 w.2.frm=never:=by simpa [never] using hc
     have he:relaxA p q a w=a:=by unfold relaxA;rw [if_pos hc]
     repeat (first | refine nx ?_ | (refine z3 fun K hK=>?_;simp only [go_sem];apply hK;clear hK K))
     refine ⟨rfl,relaxA p q a w,?_,hnext.symm⟩
     rw [he]
     simp only [go_sem]
     refine weA ?_ ?_ <;> simp
    ·have hnv:¬ getI a.1 w.2.frm=never:=by intro e;rw [e] at hc;simp [never] at hc
     repeat (first | refine nx ?_ | (refine z3 fun K hK=>?_;simp only [go_sem];apply hK;clear hK K))
     refine z6 (by kernel_rfl) (by kernel_rfl) fun K hK=>?_
     simp only [go_sem,g1,g2,g3,g4,ht.1,hf.1]
     refine ⟨_,.fn (hf:=h51) (hd:=rfl) (hr:=.inl rfl),?_⟩
     simp only [go_sem]
     refine ⟨_,.fn (hf:=hq _) (hd:=rfl) (hr:=.inl rfl),?_⟩
     simp only [go_sem]
     refine ⟨_,.fn (hf:=h50) (hd:=rfl) (hr:=.inl rfl),?_⟩
     simp only [go_sem]
     refine ⟨by kernel_rfl,hK _ ?_⟩
     clear hK K
     repeat (first | refine nx ?_ | (refine z3 fun K hK=>?_;simp only [go_sem,g1,g2,g3,g4,ht.1,hf.1];apply hK;clear hK K))
     refine z4 rfl (fun hc=>?_) (fun hc=>?_)
     ·have hc:arriveF w.2.opens (getI a.1 w.2.frm) (q (spanW w.2 p))<getI a.1 w.2.to:=by simpa using hc
      have he:relaxA p q a w=(a.1.set w.2.to.toNat (arriveF w.2.opens (getI a.1 w.2.frm) (q (spanW w.2 p))),true):=by unfold relaxA;rw [if_neg hnv];dsimp only;rw [if_pos hc]
      repeat (first | refine nx ?_ | (refine z3 fun K hK=>?_;simp only [go_sem,g1,g2,g3,g4,ht.1,hf.1];apply hK;clear hK K))
      refine ⟨rfl,relaxA p q a w,?_,hnext.symm⟩
      rw [he,z42]
      simp only [go_sem]
      refine weA ?_ ?_ <;> simp
     ·have hc:¬ arriveF w.2.opens (getI a.1 w.2.frm) (q (spanW w.2 p))<getI a.1 w.2.to:=by simpa using hc
      have he:relaxA p q a w=a:=by unfold relaxA;rw [if_neg hnv];dsimp only;rw [if_neg hc]
      repeat (first | refine nx ?_ | (refine z3 fun K hK=>?_;simp only [go_sem];apply hK;clear hK K))
      refine ⟨rfl,relaxA p q a w,?_,hnext.symm⟩
      rw [he]
      simp only [go_sem]
      refine weA ?_ ?_ <;> simp
   ·intro a ha
    rw [List.length_map,List.take_length] at ha
    have ha:a=passA n p q but l:=ha
    have hM:=z831 p q (waysL n p but) (l,false) (fun w hw=>by
     have:=hn.to w.2 (List.mem_of_getElem? (z56 hw))
     show w.2.to.toNat<l.length;omega)
    rw [← show passA n p q but l=(waysL n p but).foldl (relaxA p q) (l,false) from rfl,← ha] at hM
    have hlen:a.1.length=m:=by rw [ha,passA,z183];exact h1
    have hk:=h3 rfl
    simp only [go_sem]
    repeat (first | refine nx ?_ | (refine z3 fun K hK=>?_;simp only [go_sem];apply hK;clear hK K))
    refine z70 [12] ?_ ?_
    ·simp only [go_sem]
     refine weA ?_ ?_ <;> simp
    simp only [go_sem]
    repeat (first | refine nx ?_ | (refine z3 fun K hK=>?_;simp only [go_sem];apply hK;clear hK K))
    refine ⟨rfl,(a.1,a.2,k - 1),?_,⟨hlen,?_,fun hc=>?_⟩,?_⟩
    ·refine weA ?_ ?_ <;> simp
    ·obtain ⟨k',rfl⟩:∃ k',k=k' + 1:=⟨k - 1,by omega⟩
     rw [h2,if_pos rfl,fixA,← ha];rfl
    ·have:=hM.2 rfl hc
     dsimp only at this ⊢
     omega
    ·dsimp only
     split <;> simp <;> omega
  ·subst hb
   repeat (first | refine nx ?_ | (refine z3 fun K hK=>?_;simp only [go_sem];apply hK;clear hK K))
   simp only [go_sem]
   rw [h2]
   simp
end Go.Ab
namespace Go.Ab
open Go.RowKit Go.Proofs
attribute [local irreducible] WalkL Walk
def told1 (t:Int):Int:=if t=never then -1 else t
theorem z981 (l:List Int) (i:Nat) (h:i<l.length):((l.take i).map told1++l.drop i).set i (told1 l[i])=(l.take (i + 1)).map told1++l.drop (i + 1):=by
 have h1:((l.take i).map told1).length=i:=by simp;omega
 rw [List.set_append_right _ _ (by omega),h1,Nat.sub_self,List.drop_eq_getElem_cons h,List.set_cons_zero,List.take_add_one,List.map_append]
 simp [h]
theorem z847 (l:List Int) (i:Nat) (h:i<l.length):((l.take i).map told1++l.drop i)[i]?=some l[i]:=by
 have h1:((l.take i).map told1).length=i:=by simp;omega
 rw [List.getElem?_append_right (by omega),h1]
 simp [h]
theorem z1067 (l:List Int) (i:Nat):((l.take i).map told1++l.drop i).length=l.length:=by simp;omega
theorem z1072 {α:Type} {l:List α} {i:Nat} {x:α} (h:l[i]?=some x):l.set i x=l:=by
 apply List.ext_getElem?
 intro k
 rw [List.getElem?_set]
 split
 ·rename_i e;subst e;rw [if_pos (List.getElem?_eq_some_iff.1 h).1,h]
 ·rfl
theorem zf47 (l:List Int) (hl:l.length<2 ^ 62):FnG Try.prog 47 [.arr 3 1 (intRows l)] [0] [.own 0] (.own 0) [.arr 3 1 (intRows (l.map told1))]:=by
 refine z157 19 Try.call47 Try.func47 rfl (by decide) [] [(0,0)] (by simp only [List.length_cons,List.length_nil];decide) (by kernel_rfl) fun J=>?_
 simp only [go_sem,St.startG,Try.ntmps47,Try.results47,List.map_cons,List.map_nil,List.range_succ]
 repeat (first | refine nx ?_ | (refine z3 fun K hK=>?_;simp only [go_sem,z16];apply hK;clear hK K))
 refine z18 (fun (i:Nat)=>[(7,.d (.i i))]) (fun i=>[(19,some (.arr 3 1 (intRows ((l.take i).map told1++l.drop i))))]) (fun i=>i≤l.length) (fun i=>l.length - i) 0 ?_ (Nat.zero_le _) ?_
 ·simp only [go_sem]
  refine weA ?_ ?_ <;> simp
 ·intro i hi
  simp only [go_sem]
  repeat (first | refine nx ?_ | (refine z3 fun K hK=>?_;simp only [go_sem];apply hK;clear hK K))
  refine z4 rfl (fun hb=>?_) (fun hb=>?_)
  ·have hlt:i<l.length:=by simpa using hb
   have hw:IntKind.i64.wrap ((i:Int) + 1)=((i + 1:Nat):Int):=by rw [z9 (by omega)];simp
   have hlen:=z1067 l i
   have g1:(intRows ((l.take i).map told1++l.drop i))[i]?=some [.i l[i]]:=by simp only [intRows,List.getElem?_map,z847 l i hlt,Option.map_some]
   have hn:=z981 l i hlt
   repeat (first | refine nx ?_ | (refine z3 fun K hK=>?_;simp only [go_sem,hlt,z16,hlen,g1,hw];apply hK;clear hK K))
   refine z4 rfl (fun hc=>?_) (fun hc=>?_)
   ·have hc:l[i]=never:=by simpa [never] using hc
    have ht:told1 l[i]=-1:=by unfold told1;rw [if_pos hc]
    rw [ht] at hn
    repeat (first | refine nx ?_ | (refine z3 fun K hK=>?_;simp only [go_sem,hlt,z16,hlen,g1,hw];apply hK;clear hK K))
    refine ⟨rfl,i + 1,?_,hlt,by omega⟩
    rw [← hn,← z42]
    refine weA ?_ ?_ <;> simp
   ·have hc:¬ l[i]=never:=by intro e;rw [e] at hc;simp [never] at hc
    have ht:told1 l[i]=l[i]:=by unfold told1;rw [if_neg hc]
    repeat (first | refine nx ?_ | (refine z3 fun K hK=>?_;simp only [go_sem,hlt,z16,hlen,g1,hw];apply hK;clear hK K))
    refine ⟨rfl,i + 1,?_,hlt,by omega⟩
    rw [ht,z1072 (z847 l i hlt)] at hn
    rw [← hn]
    refine weA ?_ ?_ <;> simp
  ·have he:i=l.length:=by have:¬ i<l.length:=by simpa using hb
                          omega
   subst he
   repeat (first | refine nx ?_ | (refine z3 fun K hK=>?_;simp only [go_sem];apply hK;clear hK K))
   simp only [go_sem,List.take_length,List.drop_length]
end Go.Ab
namespace Go.Ab
open Go.RowKit Go.Proofs
attribute [local irreducible] WalkL Walk
structure Net.Small (n:Net):Prop where
 paths:n.paths.length<2 ^ 30
 opens:∀ x ∈ n.paths,x.opens.length<2 ^ 30
def wrong1 (n:Net) (x:Path):Bool :=
 !withinB x.frm 0 (n.places - 1) || (!withinB x.to 0 (n.places - 1) || (x.frm == x.to || (!withinB x.grade 1 6 || (!orderedB x.time 1 600 || (!orderedB x.snow 0 30 || decide ((x.opens.length:Int) > 6))))))
def wrongB (n:Net) (x:Path):Bool:=wrong1 n x || x.opens.any (fun s=>!orderedB s 0 2880)
theorem zf80 (n:Net) (x:Path) (hn:0≤n.places∧n.places<2 ^ 62) (hl:x.opens.length<2 ^ 30) :
  Fn Try.prog 80 [.agg x.row,.ptr [.fn 78 [.ptr n.cells 0]] 0,.ptr [.fn 79 []] 0] (.bool (wrongB n x)):=by
 refine z12 54 Try.call80 Try.func80 rfl (by decide) fun J=>?_
 simp only [go_sem,St.start,Try.ntmps80,Try.results80,Path.row,Net.cells]
 have h66:=fun s (_:s ∈ x.opens)=>zf79 s (.i 0)
 repeat (first | refine nx ?_ | (refine z3 fun K hK=>?_;simp only [go_sem];apply hK;clear hK K))
 refine z26 [(4,.d (.bool (wrongB n x)))] [] ?_ ?_
 ·refine z3 fun K hK=>?_
  simp only [go_sem]
  refine ⟨_,.lent (hf:=zf78 n x.frm hn) (hd:=rfl) (hr:=rfl),?_⟩
  simp only [go_sem]
  by_cases ho0:(!withinB x.frm 0 (n.places - 1))=true
  ·simp only [go_sem,ho0]
   apply hK
   clear hK K
   refine z8 ?_
   refine z5 ?_
   refine ⟨rfl,?_⟩
   rw [show (wrongB n x)=(true) from by simp [wrongB,wrong1,ho0]]
   simp only [go_sem]
   refine weA ?_ ?_ <;> simp
  ·simp only [go_sem,ho0]
   refine ⟨_,.lent (hf:=zf78 n x.to hn) (hd:=rfl) (hr:=rfl),?_⟩
   simp only [go_sem,ho0]
   by_cases ho1:(!withinB x.to 0 (n.places - 1))=true
   ·simp only [go_sem,ho0,ho1]
    apply hK
    clear hK K
    refine z8 ?_
    refine z5 ?_
    refine ⟨rfl,?_⟩
    rw [show (wrongB n x)=(true) from by simp [wrongB,wrong1,ho0,ho1]]
    simp only [go_sem]
    refine weA ?_ ?_ <;> simp
   ·simp only [go_sem,ho0,ho1]
    by_cases ho2:(x.frm == x.to)=true
    ·simp only [go_sem,ho0,ho1,ho2]
     apply hK
     clear hK K
     refine z8 ?_
     refine z5 ?_
     refine ⟨rfl,?_⟩
     rw [show (wrongB n x)=(true) from by simp [wrongB,wrong1,ho0,ho1,ho2]]
     simp only [go_sem]
     refine weA ?_ ?_ <;> simp
    ·simp only [go_sem,ho0,ho1,ho2]
     refine ⟨_,.lent (hf:=z972 x.grade 1 6) (hd:=rfl) (hr:=rfl),?_⟩
     simp only [go_sem,ho0,ho1,ho2]
     by_cases ho3:(!withinB x.grade 1 6)=true
     ·simp only [go_sem,ho0,ho1,ho2,ho3]
      apply hK
      clear hK K
      refine z8 ?_
      refine z5 ?_
      refine ⟨rfl,?_⟩
      rw [show (wrongB n x)=(true) from by simp [wrongB,wrong1,ho0,ho1,ho2,ho3]]
      simp only [go_sem]
      refine weA ?_ ?_ <;> simp
     ·simp only [go_sem,ho0,ho1,ho2,ho3]
      refine ⟨_,.lent (hf:=z1166 x.time 1 600) (hd:=rfl) (hr:=rfl),?_⟩
      simp only [go_sem,ho0,ho1,ho2,ho3]
      by_cases ho4:(!orderedB x.time 1 600)=true
      ·simp only [go_sem,ho0,ho1,ho2,ho3,ho4]
       apply hK
       clear hK K
       refine z8 ?_
       refine z5 ?_
       refine ⟨rfl,?_⟩
       rw [show (wrongB n x)=(true) from by simp [wrongB,wrong1,ho0,ho1,ho2,ho3,ho4]]
       simp only [go_sem]
       refine weA ?_ ?_ <;> simp
      ·simp only [go_sem,ho0,ho1,ho2,ho3,ho4]
       refine ⟨_,.lent (hf:=z1166 x.snow 0 30) (hd:=rfl) (hr:=rfl),?_⟩
       simp only [go_sem,ho0,ho1,ho2,ho3,ho4]
       by_cases ho5:(!orderedB x.snow 0 30)=true
       ·simp only [go_sem,ho0,ho1,ho2,ho3,ho4,ho5]
        apply hK
        clear hK K
        refine z8 ?_
        refine z5 ?_
        refine ⟨rfl,?_⟩
        rw [show (wrongB n x)=(true) from by simp [wrongB,wrong1,ho0,ho1,ho2,ho3,ho4,ho5]]
        simp only [go_sem]
        refine weA ?_ ?_ <;> simp
       ·simp only [go_sem,ho0,ho1,ho2,ho3,ho4,ho5]
        by_cases ho6:(decide ((x.opens.length:Int) > 6))=true
        ·simp only [go_sem,ho0,ho1,ho2,ho3,ho4,ho5,ho6]
         apply hK
         clear hK K
         refine z8 ?_
         refine z5 ?_
         refine ⟨rfl,?_⟩
         rw [show (wrongB n x)=(true) from by simp [wrongB,wrong1,ho0,ho1,ho2,ho3,ho4,ho5,ho6]]
         simp only [go_sem]
         refine weA ?_ ?_ <;> simp
        ·simp only [go_sem,ho0,ho1,ho2,ho3,ho4,ho5,ho6]
         refine ⟨_,.lent (hf:=zf81 x.opens 79 [] _ h66 (by omega)) (hd:=rfl) (hr:=rfl),?_⟩
         simp only [go_sem,ho0,ho1,ho2,ho3,ho4,ho5,ho6]
         apply hK
         clear hK K
         refine z8 ?_
         refine z5 ?_
         refine ⟨rfl,?_⟩
         rw [show (wrongB n x)=(x.opens.any (fun s=>!orderedB s 0 2880)) from by simp [wrongB,wrong1,ho0,ho1,ho2,ho3,ho4,ho5,ho6]]
         simp only [go_sem]
         refine weA ?_ ?_ <;> simp
 ·simp only [go_sem]
  repeat (first | refine nx ?_ | (refine z3 fun K hK=>?_;simp only [go_sem];apply hK;clear hK K))
  simp only [go_sem]
def badNet (n:Net):Bool:=!withinB n.places 1 12 || (decide ((n.paths.length:Int) > 24) || n.paths.any (wrongB n))
def checkF (n:Net):Int:=if badNet n then 10 else 0
theorem z27 {x lo hi:Int}:withinB x lo hi=true↔lo≤x∧x≤hi:=by simp [withinB]
theorem z1190 (n:Net) (hs:n.Small):Fn Try.prog 66 [.agg n.cells] (.i (checkF n)):=by
 refine z12 24 Try.call66 Try.func66 rfl (by decide) fun J=>?_
 simp only [go_sem,St.start,Try.ntmps66,Try.results66,Net.cells]
 have h68:withinB n.places 1 12=true→∀ x ∈ n.paths,Fn Try.prog 80 [.agg x.row,.ptr [.fn 78 [.ptr n.cells 0]] 0,.ptr [.fn 79 []] 0] (.bool (wrongB n x)):=fun h x hx =>
  zf80 n x (by have:=z27.1 h;omega) (hs.opens x hx)
 have h70:=fun h=>zf82 n.paths 80 [.ptr [.fn 78 [.ptr n.cells 0]] 0,.ptr [.fn 79 []] 0] (wrongB n) (h68 h) (Nat.lt_trans hs.paths (by decide))
 repeat (first | refine nx ?_ | (refine z3 fun K hK=>?_;simp only [go_sem];apply hK;clear hK K))
 refine z26 [(23,.d (.bool (badNet n)))] [] ?_ ?_
 ·refine z3 fun K hK=>?_
  simp only [go_sem]
  refine ⟨_,.lent (hf:=z972 n.places 1 12) (hd:=rfl) (hr:=rfl),?_⟩
  simp only [go_sem]
  by_cases ho0:(!withinB n.places 1 12)=true
  ·simp only [go_sem,ho0]
   apply hK
   clear hK K
   refine z8 ?_
   refine z5 ?_
   refine ⟨rfl,?_⟩
   rw [show (badNet n)=(true) from by simp [badNet,ho0]]
   simp only [go_sem]
   refine weA ?_ ?_ <;> simp
  ·simp only [go_sem,ho0]
   by_cases ho1:(decide ((n.paths.length:Int) > 24))=true
   ·simp only [go_sem,ho0,ho1]
    apply hK
    clear hK K
    refine z8 ?_
    refine z5 ?_
    refine ⟨rfl,?_⟩
    rw [show (badNet n)=(true) from by simp [badNet,ho0,ho1]]
    simp only [go_sem]
    refine weA ?_ ?_ <;> simp
   ·simp only [go_sem,ho0,ho1]
    refine ⟨_,.lent (hf:=h70 (by simpa using ho0)) (hd:=rfl) (hr:=rfl),?_⟩
    simp only [go_sem,ho0,ho1]
    apply hK
    clear hK K
    refine z8 ?_
    refine z5 ?_
    refine ⟨rfl,?_⟩
    rw [show (badNet n)=(n.paths.any (wrongB n)) from by simp [badNet,ho0,ho1]]
    simp only [go_sem]
    refine weA ?_ ?_ <;> simp
 ·simp only [go_sem]
  repeat (first | refine nx ?_ | (refine z3 fun K hK=>?_;simp only [go_sem];apply hK;clear hK K))
  refine z4 rfl (fun hc=>?_) (fun hc=>?_)
  ·repeat (first | refine nx ?_ | (refine z3 fun K hK=>?_;simp only [go_sem];apply hK;clear hK K))
   simp only [go_sem,checkF,hc]
  ·repeat (first | refine nx ?_ | (refine z3 fun K hK=>?_;simp only [go_sem];apply hK;clear hK K))
   simp only [go_sem,checkF,hc]
end Go.Ab
namespace Go.Ab
open Go.RowKit Go.Proofs
set_option maxHeartbeats 4000000
attribute [local irreducible] WalkL Walk
theorem z83 {α:Type} {q:α→Bool} {l:List α} {i:Nat} {x:α} (h:l[i]?=some x) (h0:(l.take i).any q=false) (hx:q x=false):(l.take (i + 1)).any q=false:=by
 rw [List.take_add_one,h,List.any_append,h0];simp [hx]
theorem z116 {α:Type} {q:α→Bool} {l:List α} {i:Nat} {x:α} (h:l[i]?=some x) (hx:q x=true):l.any q=true:=List.any_eq_true.2 ⟨x,List.mem_of_getElem? h,hx⟩
theorem z1196 (n:Net) (hs:n.Small):Fn Try.prog 42 [.agg n.cells] (.i (checkF n)):=by
 refine z12 85 Try.call42 Try.func42 rfl (by decide) fun J=>?_
 simp only [go_sem,St.start,Try.ntmps42,Try.results42,Net.cells]
 repeat (first | refine nx ?_ | (refine z3 fun K hK=>?_;simp only [go_sem];apply hK;clear hK K))
 refine z26 [(15,.d (.bool (!withinB n.places 1 12 || decide ((n.paths.length:Int) > 24))))] [] ?_ ?_
 ·refine z3 fun K hK=>?_
  simp only [go_sem]
  refine ⟨_,.lent (hf:=z1128 n.places 1 12) (hd:=rfl) (hr:=rfl),?_⟩
  simp only [go_sem]
  by_cases ho0:(!withinB n.places 1 12)=true
  ·simp only [go_sem,ho0]
   apply hK
   clear hK K
   refine z8 ?_
   refine z5 ?_
   refine ⟨rfl,?_⟩
   rw [show (!withinB n.places 1 12 || decide ((n.paths.length:Int) > 24))=(true) from by simp [ho0]]
   simp only [go_sem]
   refine weA ?_ ?_ <;> simp
  ·simp only [go_sem,ho0]
   apply hK
   clear hK K
   refine z8 ?_
   refine z5 ?_
   refine ⟨rfl,?_⟩
   rw [show (!withinB n.places 1 12 || decide ((n.paths.length:Int) > 24))=(decide ((n.paths.length:Int) > 24)) from by simp [ho0]]
   simp only [go_sem]
   refine weA ?_ ?_ <;> simp
 simp only [go_sem]
 refine z4 rfl (fun hc=>?_) (fun hc=>?_)
 ·repeat (first | refine nx ?_ | (refine z3 fun K hK=>?_;simp only [go_sem];apply hK;clear hK K))
  have hb:badNet n=true:=by unfold badNet;rw [← Bool.or_assoc,hc];rfl
  simp only [go_sem,checkF,hb]
 ·rw [Bool.or_eq_false_iff] at hc
  have hpl:=z27.1 (show withinB n.places 1 12=true by simpa using hc.1)
  have hbad:badNet n=n.paths.any (wrongB n):=by unfold badNet;rw [← Bool.or_assoc,hc.1,hc.2];rfl
  repeat (first | refine nx ?_ | (refine z3 fun K hK=>?_;simp only [go_sem];apply hK;clear hK K))
  refine z18 (fun (i:Nat)=>[(3,.d (.i i))]) (fun _=>[]) (fun i=>i≤n.paths.length∧(n.paths.take i).any (wrongB n)=false) (fun i=>n.paths.length - i) 0 ?_ ⟨Nat.zero_le _,rfl⟩ ?_
  ·simp only [go_sem]
   refine weA ?_ ?_ <;> simp
  ·intro i ⟨hi,hall⟩
   have hbound:=hs.paths
   simp only [go_sem]
   repeat (first | refine nx ?_ | (refine z3 fun K hK=>?_;simp only [go_sem];apply hK;clear hK K))
   refine z4 rfl (fun hb=>?_) (fun hb=>?_)
   ·have hlt:i<n.paths.length:=by simpa using hb
    have hw:IntKind.i64.wrap ((i:Int) + 1)=((i + 1:Nat):Int):=by rw [z9 (by omega)];simp
    obtain ⟨x,hx⟩:∃ x,n.paths[i]?=some x:=⟨_,List.getElem?_eq_getElem hlt⟩
    have hxo:=hs.opens x (List.mem_of_getElem? hx)
    have hp62:-(2 ^ 62)≤n.places∧n.places<2 ^ 62:=by omega
    repeat (first | refine nx ?_ | (refine z3 fun K hK=>?_;simp only [go_sem,hx,List.getElem?_map,Path.row];apply hK;clear hK K))
    refine z26 [(70,.d (.bool (wrong1 n x)))] [] ?_ ?_
    ·refine z3 fun K hK=>?_
     simp only [go_sem]
     refine ⟨_,.lent (hf:=zf7 n x.frm hp62) (hd:=rfl) (hr:=rfl),?_⟩
     simp only [go_sem]
     by_cases ho0:(!withinB x.frm 0 (n.places - 1))=true
     ·simp only [go_sem,ho0]
      apply hK
      clear hK K
      refine z8 ?_
      refine z5 ?_
      refine ⟨rfl,?_⟩
      rw [show (wrong1 n x)=(true) from by simp [wrong1,ho0]]
      simp only [go_sem]
      refine weA ?_ ?_ <;> simp
     ·simp only [go_sem,ho0]
      refine ⟨_,.lent (hf:=zf7 n x.to hp62) (hd:=rfl) (hr:=rfl),?_⟩
      simp only [go_sem,ho0]
      by_cases ho1:(!withinB x.to 0 (n.places - 1))=true
      ·simp only [go_sem,ho0,ho1]
       apply hK
       clear hK K
       refine z8 ?_
       refine z5 ?_
       refine ⟨rfl,?_⟩
       rw [show (wrong1 n x)=(true) from by simp [wrong1,ho0,ho1]]
       simp only [go_sem]
       refine weA ?_ ?_ <;> simp
      ·simp only [go_sem,ho0,ho1]
       by_cases ho2:(x.frm == x.to)=true
       ·simp only [go_sem,ho0,ho1,ho2]
        apply hK
        clear hK K
        refine z8 ?_
        refine z5 ?_
        refine ⟨rfl,?_⟩
        rw [show (wrong1 n x)=(true) from by simp [wrong1,ho0,ho1,ho2]]
        simp only [go_sem]
        refine weA ?_ ?_ <;> simp
       ·simp only [go_sem,ho0,ho1,ho2]
        refine ⟨_,.lent (hf:=z1128 x.grade 1 6) (hd:=rfl) (hr:=rfl),?_⟩
        simp only [go_sem,ho0,ho1,ho2]
        by_cases ho3:(!withinB x.grade 1 6)=true
        ·simp only [go_sem,ho0,ho1,ho2,ho3]
         apply hK
         clear hK K
         refine z8 ?_
         refine z5 ?_
         refine ⟨rfl,?_⟩
         rw [show (wrong1 n x)=(true) from by simp [wrong1,ho0,ho1,ho2,ho3]]
         simp only [go_sem]
         refine weA ?_ ?_ <;> simp
        ·simp only [go_sem,ho0,ho1,ho2,ho3]
         refine ⟨_,.lent (hf:=z1167 x.time 1 600) (hd:=rfl) (hr:=rfl),?_⟩
         simp only [go_sem,ho0,ho1,ho2,ho3]
         by_cases ho4:(!orderedB x.time 1 600)=true
         ·simp only [go_sem,ho0,ho1,ho2,ho3,ho4]
          apply hK
          clear hK K
          refine z8 ?_
          refine z5 ?_
          refine ⟨rfl,?_⟩
          rw [show (wrong1 n x)=(true) from by simp [wrong1,ho0,ho1,ho2,ho3,ho4]]
          simp only [go_sem]
          refine weA ?_ ?_ <;> simp
         ·simp only [go_sem,ho0,ho1,ho2,ho3,ho4]
          refine ⟨_,.lent (hf:=z1167 x.snow 0 30) (hd:=rfl) (hr:=rfl),?_⟩
          simp only [go_sem,ho0,ho1,ho2,ho3,ho4]
          by_cases ho5:(!orderedB x.snow 0 30)=true
          ·simp only [go_sem,ho0,ho1,ho2,ho3,ho4,ho5]
           apply hK
           clear hK K
           refine z8 ?_
           refine z5 ?_
           refine ⟨rfl,?_⟩
           rw [show (wrong1 n x)=(true) from by simp [wrong1,ho0,ho1,ho2,ho3,ho4,ho5]]
           simp only [go_sem]
           refine weA ?_ ?_ <;> simp
          ·simp only [go_sem,ho0,ho1,ho2,ho3,ho4,ho5]
           apply hK
           clear hK K
           refine z8 ?_
           refine z5 ?_
           refine ⟨rfl,?_⟩
           rw [show (wrong1 n x)=(decide ((x.opens.length:Int) > 6)) from by simp [wrong1,ho0,ho1,ho2,ho3,ho4,ho5]]
           simp only [go_sem]
           refine weA ?_ ?_ <;> simp
    simp only [go_sem]
    refine z4 rfl (fun hc1=>?_) (fun hc1=>?_)
    ·repeat (first | refine nx ?_ | (refine z3 fun K hK=>?_;simp only [go_sem];apply hK;clear hK K))
     have hb:badNet n=true:=by rw [hbad];exact z116 hx (by unfold wrongB;rw [hc1];rfl)
     simp only [go_sem,checkF,hb]
    ·repeat (first | refine nx ?_ | (refine z3 fun K hK=>?_;simp only [go_sem];apply hK;clear hK K))
     refine z18 (fun (k:Nat)=>[(5,.d (.i k))]) (fun _=>[]) (fun k=>k≤x.opens.length∧(x.opens.take k).any (fun s=>!orderedB s 0 2880)=false) (fun k=>x.opens.length - k) 0 ?_ ⟨Nat.zero_le _,rfl⟩ ?_
     ·simp only [go_sem]
      refine weA ?_ ?_ <;> simp
     ·intro k ⟨hk,hkall⟩
      simp only [go_sem]
      repeat (first | refine nx ?_ | (refine z3 fun K hK=>?_;simp only [go_sem];apply hK;clear hK K))
      refine z4 rfl (fun hb=>?_) (fun hb=>?_)
      ·have hlk:k<x.opens.length:=by simpa using hb
       have hwk:IntKind.i64.wrap ((k:Int) + 1)=((k + 1:Nat):Int):=by rw [z9 (by omega)];simp
       obtain ⟨s,hs1⟩:∃ s,x.opens[k]?=some s:=⟨_,List.getElem?_eq_getElem hlk⟩
       repeat (first | refine nx ?_ | (refine z3 fun K hK=>?_;simp only [go_sem,hs1,List.getElem?_map,Span.row];(repeat (first | (refine ⟨_,.lent (hf:=z1167 s 0 2880) (hd:=rfl) (hr:=rfl),?_⟩;simp only [go_sem,hs1,List.getElem?_map,Span.row]) | (refine ⟨_,.given (hf:=z1167 s 0 2880) (hd:=rfl) (ha:=rfl),?_⟩;simp only [go_sem,hs1,List.getElem?_map,Span.row])));apply hK;clear hK K))
       refine z4 rfl (fun hc2=>?_) (fun hc2=>?_)
       ·repeat (first | refine nx ?_ | (refine z3 fun K hK=>?_;simp only [go_sem];apply hK;clear hK K))
        have hb:badNet n=true:=by rw [hbad];exact z116 hx (by unfold wrongB;rw [z116 hs1 hc2];simp)
        simp only [go_sem,checkF,hb]
       ·repeat (first | refine nx ?_ | (refine z3 fun K hK=>?_;simp only [go_sem,hwk];apply hK;clear hK K))
        refine ⟨rfl,k + 1,?_,⟨hlk,z83 hs1 hkall hc2⟩,by omega⟩
        refine weA ?_ ?_ <;> simp
      ·have he:k=x.opens.length:=by (have:¬ k<x.opens.length:=by simpa using hb);omega
       subst he
       rw [List.take_length] at hkall
       repeat (first | refine nx ?_ | (refine z3 fun K hK=>?_;simp only [go_sem,hw];apply hK;clear hK K))
       refine ⟨rfl,i + 1,?_,⟨hlt,z83 hx hall (by unfold wrongB;rw [hc1,hkall];rfl)⟩,by omega⟩
       refine weA ?_ ?_ <;> simp
   ·have he:i=n.paths.length:=by (have:¬ i<n.paths.length:=by simpa using hb);omega
    subst he
    rw [List.take_length] at hall
    repeat (first | refine nx ?_ | (refine z3 fun K hK=>?_;simp only [go_sem];apply hK;clear hK K))
    have hb:badNet n=false:=by rw [hbad,hall]
    simp only [go_sem,checkF,hb]
end Go.Ab
namespace Go.Ab
open Go.RowKit Go.Proofs
set_option maxHeartbeats 4000000
attribute [local irreducible] WalkL Walk
def badParty (p:Party):Bool:=!withinB p.grade 1 6 || (!orderedB p.pace 50 300 || !withinB p.load 0 40)
def checkPartyF (n:Net) (p:Party):Int:=if badNet n then 10 else if badParty p then 11 else 0
theorem zf14 (n:Net) (p:Party) (hs:n.Small):Fn Try.prog 14 [.agg n.cells,.agg p.cells] (.i (checkPartyF n p)):=by
 refine z12 27 Try.call14 Try.func14 rfl (by decide) fun J=>?_
 simp only [go_sem,St.start,Try.ntmps14,Try.results14,Net.cells,Party.cells]
 repeat (first | refine nx ?_ | (refine z3 fun K hK=>?_;simp only [go_sem];(repeat (first | (refine ⟨_,.lent (hf:=z1196 n hs) (hd:=rfl) (hr:=rfl),?_⟩;simp only [go_sem]) | (refine ⟨_,.given (hf:=z1196 n hs) (hd:=rfl) (ha:=rfl),?_⟩;simp only [go_sem])));apply hK;clear hK K))
 by_cases hb:badNet n=true
 ·try simp only [go_sem,checkF,hb]
  refine z10 rfl ?_
  repeat (first | refine nx ?_ | (refine z3 fun K hK=>?_;simp only [go_sem];apply hK;clear hK K))
  simp only [go_sem,checkPartyF,hb]
 ·try simp only [go_sem,checkF,hb]
  refine z7 rfl ?_
  repeat (first | refine nx ?_ | (refine z3 fun K hK=>?_;simp only [go_sem];apply hK;clear hK K))
  refine z26 [(26,.d (.bool (badParty p)))] [] ?_ ?_
  ·refine z3 fun K hK=>?_
   simp only [go_sem]
   refine ⟨_,.lent (hf:=z1128 p.grade 1 6) (hd:=rfl) (hr:=rfl),?_⟩
   simp only [go_sem]
   by_cases ho0:(!withinB p.grade 1 6)=true
   ·simp only [go_sem,ho0]
    apply hK
    clear hK K
    refine z8 ?_
    refine z5 ?_
    refine ⟨rfl,?_⟩
    rw [show (badParty p)=(true) from by simp [badParty,ho0]]
    simp only [go_sem]
    refine weA ?_ ?_ <;> simp
   ·simp only [go_sem,ho0]
    refine ⟨_,.lent (hf:=z1167 p.pace 50 300) (hd:=rfl) (hr:=rfl),?_⟩
    simp only [go_sem,ho0]
    by_cases ho1:(!orderedB p.pace 50 300)=true
    ·simp only [go_sem,ho0,ho1]
     apply hK
     clear hK K
     refine z8 ?_
     refine z5 ?_
     refine ⟨rfl,?_⟩
     rw [show (badParty p)=(true) from by simp [badParty,ho0,ho1]]
     simp only [go_sem]
     refine weA ?_ ?_ <;> simp
    ·simp only [go_sem,ho0,ho1]
     refine ⟨_,.lent (hf:=z1128 p.load 0 40) (hd:=rfl) (hr:=rfl),?_⟩
     simp only [go_sem,ho0,ho1]
     apply hK
     clear hK K
     refine z8 ?_
     refine z5 ?_
     refine ⟨rfl,?_⟩
     rw [show (badParty p)=(!withinB p.load 0 40) from by simp [badParty,ho0,ho1]]
     simp only [go_sem]
     refine weA ?_ ?_ <;> simp
  simp only [go_sem]
  refine z4 rfl (fun hc=>?_) (fun hc=>?_)
  ·repeat (first | refine nx ?_ | (refine z3 fun K hK=>?_;simp only [go_sem];apply hK;clear hK K))
   simp only [go_sem,checkPartyF,hb,hc]
  ·repeat (first | refine nx ?_ | (refine z3 fun K hK=>?_;simp only [go_sem];apply hK;clear hK K))
   simp only [go_sem,checkPartyF,hb,hc]
theorem zf50 (n:Net) (p:Party) (hs:n.Small):Fn Try.prog 50 [.agg n.cells,.agg p.cells] (.tup [.agg (walkCells n p),.i (checkPartyF n p)]):=by
 refine z12 35 Try.call50 Try.func50 rfl (by decide) fun J=>?_
 simp only [go_sem,St.start,Try.ntmps50,Try.results50,Net.cells,Party.cells,walkCells]
 repeat (first | refine nx ?_ | (refine z3 fun K hK=>?_;simp only [go_sem];(repeat (first | (refine ⟨_,.lent (hf:=z1190 n hs) (hd:=rfl) (hr:=rfl),?_⟩;simp only [go_sem]) | (refine ⟨_,.given (hf:=z1190 n hs) (hd:=rfl) (ha:=rfl),?_⟩;simp only [go_sem])));apply hK;clear hK K))
 by_cases hb:badNet n=true
 ·try simp only [go_sem,checkF,hb]
  refine z10 rfl ?_
  repeat (first | refine nx ?_ | (refine z3 fun K hK=>?_;simp only [go_sem];apply hK;clear hK K))
  simp only [go_sem,checkPartyF,hb,walkCells]
 ·try simp only [go_sem,checkF,hb]
  refine z7 rfl ?_
  repeat (first | refine nx ?_ | (refine z3 fun K hK=>?_;simp only [go_sem];apply hK;clear hK K))
  refine z26 [(32,.d (.bool (badParty p)))] [] ?_ ?_
  ·refine z3 fun K hK=>?_
   simp only [go_sem]
   refine ⟨_,.lent (hf:=z972 p.grade 1 6) (hd:=rfl) (hr:=rfl),?_⟩
   simp only [go_sem]
   by_cases ho0:(!withinB p.grade 1 6)=true
   ·simp only [go_sem,ho0]
    apply hK
    clear hK K
    refine z8 ?_
    refine z5 ?_
    refine ⟨rfl,?_⟩
    rw [show (badParty p)=(true) from by simp [badParty,ho0]]
    simp only [go_sem]
    refine weA ?_ ?_ <;> simp
   ·simp only [go_sem,ho0]
    refine ⟨_,.lent (hf:=z1166 p.pace 50 300) (hd:=rfl) (hr:=rfl),?_⟩
    simp only [go_sem,ho0]
    by_cases ho1:(!orderedB p.pace 50 300)=true
    ·simp only [go_sem,ho0,ho1]
     apply hK
     clear hK K
     refine z8 ?_
     refine z5 ?_
     refine ⟨rfl,?_⟩
     rw [show (badParty p)=(true) from by simp [badParty,ho0,ho1]]
     simp only [go_sem]
     refine weA ?_ ?_ <;> simp
    ·simp only [go_sem,ho0,ho1]
     refine ⟨_,.lent (hf:=z972 p.load 0 40) (hd:=rfl) (hr:=rfl),?_⟩
     simp only [go_sem,ho0,ho1]
     apply hK
     clear hK K
     refine z8 ?_
     refine z5 ?_
     refine ⟨rfl,?_⟩
     rw [show (badParty p)=(!withinB p.load 0 40) from by simp [badParty,ho0,ho1]]
     simp only [go_sem]
     refine weA ?_ ?_ <;> simp
  simp only [go_sem]
  refine z4 rfl (fun hc=>?_) (fun hc=>?_)
  ·repeat (first | refine nx ?_ | (refine z3 fun K hK=>?_;simp only [go_sem];apply hK;clear hK K))
   simp only [go_sem,checkPartyF,hb,hc,walkCells]
  ·repeat (first | refine nx ?_ | (refine z3 fun K hK=>?_;simp only [go_sem];apply hK;clear hK K))
   simp only [go_sem,checkPartyF,hb,hc,walkCells]
theorem zf52 (n:Net) (x:Int) (hn:0≤n.places∧n.places<2 ^ 62):Fn Try.prog 52 [.i x,.ptr n.cells 0] (.bool (!withinB x 0 (n.places - 1))):=by
 refine z12 10 Try.call52 Try.func52 rfl (by decide) fun J=>?_
 simp only [go_sem,St.start,Try.ntmps52,Try.results52,Net.cells]
 have hw:IntKind.i64.wrap (n.places - 1)=n.places - 1:=z9 (by omega)
 repeat (first | refine nx ?_ | (refine z3 fun K hK=>?_;simp only [go_sem,hw];(repeat (first | (refine ⟨_,.lent (hf:=z972 _ _ _) (hd:=rfl) (hr:=rfl),?_⟩;simp only [go_sem,hw]) | (refine ⟨_,.given (hf:=z972 _ _ _) (hd:=rfl) (ha:=rfl),?_⟩;simp only [go_sem,hw])));apply hK;clear hK K))
 simp only [go_sem]
theorem zf54 (x:Int):Fn Try.prog 54 [.i x] (.bool (!withinB x 0 2880)):=by
 refine z12 6 Try.call54 Try.func54 rfl (by decide) fun J=>?_
 simp only [go_sem,St.start,Try.ntmps54,Try.results54]
 repeat (first | refine nx ?_ | (refine z3 fun K hK=>?_;simp only [go_sem];(repeat (first | (refine ⟨_,.lent (hf:=z972 _ _ _) (hd:=rfl) (hr:=rfl),?_⟩;simp only [go_sem]) | (refine ⟨_,.given (hf:=z972 _ _ _) (hd:=rfl) (ha:=rfl),?_⟩;simp only [go_sem])));apply hK;clear hK K))
 simp only [go_sem]
def badAsk (n:Net) (places minutes:List Int):Bool:=places.any (fun x=>!withinB x 0 (n.places - 1)) || minutes.any (fun x=>!withinB x 0 2880)
def openF (n:Net) (p:Party) (places minutes:List Int):Int:=if badNet n then 10 else if badParty p then 11 else if badAsk n places minutes then 1 else 0
theorem z154 {n:Net} (h:¬ badNet n=true):1≤n.places∧n.places≤12:=by
 have:badNet n=false:=by simpa using h
 unfold badNet at this
 rw [Bool.or_eq_false_iff] at this
 exact z27.1 (by simpa using this.1)
theorem zf23 (n:Net) (p:Party) (places minutes:List Int) (hs:n.Small) (h1:places.length<2 ^ 62) (h2:minutes.length<2 ^ 62) :
  Fn Try.prog 23 [.agg n.cells,.agg p.cells,.agg [.sl (intRows places),.sl (intRows minutes)]] (.tup [.agg (walkCells n p),.i (openF n p places minutes)]):=by
 refine z12 31 Try.call23 Try.func23 rfl (by decide) fun J=>?_
 simp only [go_sem,St.start,Try.ntmps23,Try.results23,Net.cells,Party.cells]
 have h73:=zf50 n p hs
 by_cases hb:badNet n=true
 ·repeat (first | refine nx ?_ | (refine z3 fun K hK=>?_;simp only [go_sem,checkPartyF,hb,walkCells];(repeat (first | (refine ⟨_,.lent (hf:=h73) (hd:=rfl) (hr:=rfl),?_⟩;simp only [go_sem,checkPartyF,hb,walkCells]) | (refine ⟨_,.given (hf:=h73) (hd:=rfl) (ha:=rfl),?_⟩;simp only [go_sem,checkPartyF,hb,walkCells])));apply hK;clear hK K))
  try simp only [go_sem,checkPartyF,hb]
  refine z10 rfl ?_
  repeat (first | refine nx ?_ | (refine z3 fun K hK=>?_;simp only [go_sem,walkCells];apply hK;clear hK K))
  simp only [go_sem,openF,hb,walkCells]
 ·by_cases hp:badParty p=true
  ·repeat (first | refine nx ?_ | (refine z3 fun K hK=>?_;simp only [go_sem,checkPartyF,hb,hp,walkCells];(repeat (first | (refine ⟨_,.lent (hf:=h73) (hd:=rfl) (hr:=rfl),?_⟩;simp only [go_sem,checkPartyF,hb,hp,walkCells]) | (refine ⟨_,.given (hf:=h73) (hd:=rfl) (ha:=rfl),?_⟩;simp only [go_sem,checkPartyF,hb,hp,walkCells])));apply hK;clear hK K))
   try simp only [go_sem,checkPartyF,hb,hp]
   refine z10 rfl ?_
   repeat (first | refine nx ?_ | (refine z3 fun K hK=>?_;simp only [go_sem,walkCells];apply hK;clear hK K))
   simp only [go_sem,openF,hb,hp,walkCells]
  ·have hg:=z154 hb
   have h84:=fun x (_:x ∈ places)=>zf52 n x (by omega)
   have h85:=fun x (_:x ∈ minutes)=>zf54 x
   repeat (first | refine nx ?_ | (refine z3 fun K hK=>?_;simp only [go_sem,checkPartyF,hb,hp,walkCells];(repeat (first | (refine ⟨_,.lent (hf:=h73) (hd:=rfl) (hr:=rfl),?_⟩;simp only [go_sem,checkPartyF,hb,hp,walkCells]) | (refine ⟨_,.given (hf:=h73) (hd:=rfl) (ha:=rfl),?_⟩;simp only [go_sem,checkPartyF,hb,hp,walkCells])));apply hK;clear hK K))
   try simp only [go_sem,checkPartyF,hb,hp,walkCells]
   refine z7 rfl ?_
   repeat (first | refine nx ?_ | (refine z3 fun K hK=>?_;simp only [go_sem];apply hK;clear hK K))
   refine z26 [(28,.d (.bool (badAsk n places minutes)))] [] ?_ ?_
   ·refine z3 fun K hK=>?_
    simp only [go_sem]
    refine ⟨_,.lent (hf:=zf51 places 52 [.ptr n.cells 0] _ h84 h1) (hd:=rfl) (hr:=rfl),?_⟩
    simp only [go_sem]
    by_cases ho0:(places.any (fun x=>!withinB x 0 (n.places - 1)))=true
    ·simp only [go_sem,ho0]
     apply hK
     clear hK K
     refine z8 ?_
     refine z5 ?_
     refine ⟨rfl,?_⟩
     rw [show (badAsk n places minutes)=(true) from by simp [badAsk,ho0]]
     simp only [go_sem]
     refine weA ?_ ?_ <;> simp
    ·simp only [go_sem,ho0]
     refine ⟨_,.lent (hf:=zf51 minutes 54 [] _ h85 h2) (hd:=rfl) (hr:=rfl),?_⟩
     simp only [go_sem,ho0]
     apply hK
     clear hK K
     refine z8 ?_
     refine z5 ?_
     refine ⟨rfl,?_⟩
     rw [show (badAsk n places minutes)=(minutes.any (fun x=>!withinB x 0 2880)) from by simp [badAsk,ho0]]
     simp only [go_sem]
     refine weA ?_ ?_ <;> simp
   simp only [go_sem]
   refine z4 rfl (fun hc=>?_) (fun hc=>?_)
   ·repeat (first | refine nx ?_ | (refine z3 fun K hK=>?_;simp only [go_sem];apply hK;clear hK K))
    simp only [go_sem,openF,hb,hp,hc,walkCells]
   ·repeat (first | refine nx ?_ | (refine z3 fun K hK=>?_;simp only [go_sem];apply hK;clear hK K))
    simp only [go_sem,openF,hb,hp,hc,walkCells]
theorem z137 {l:List Int} {i:Nat} {x:Int} (h:l[i]?=some x):(intRows l)[i]?=some [.i x]:=by simp [intRows,h]
end Go.Ab
namespace Go.Ab
open Go.RowKit Go.Proofs
set_option maxHeartbeats 4000000
set_option maxRecDepth 20000
attribute [local irreducible] WalkL Walk
def iterL {α:Type} (f:α→α):Nat→α→α
 | 0,a=>a
 | k + 1,a=>f (iterL f k a)
def relaxB (p:Party) (but:Int) (l:List Int) (w:Path × Nat):Bool:=((w.2:Int) != but) && (decide (w.1.grade≤p.grade) && decide (getI l w.1.frm<1073741824))
def relaxT (p:Party) (high:Bool) (but:Int) (l:List Int) (w:Path × Nat):List Int :=
 if relaxB p but l w then l.set w.1.to.toNat (min (getI l w.1.to) (stepF w.1 p (getI l w.1.frm) high)) else l
def passT (n:Net) (p:Party) (high:Bool) (but:Int) (l:List Int):List Int:=n.paths.zipIdx.foldl (relaxT p high but) l
def tableL (n:Net) (p:Party) (frm start:Int) (high:Bool) (but:Int):List Int:=iterL (passT n p high but) n.places.toNat (arrivals0 n frm start)
end Go.Ab
namespace Go.Ab
open Go.RowKit Go.Proofs
set_option maxHeartbeats 4000000
set_option maxRecDepth 20000
attribute [local irreducible] WalkL Walk
def sureF (n:Net) (p:Party) (frm start to but:Int):Int:=getI (tableL n p frm start true but) to
def shown1 (t:Int):Int:=if t ≥ never then -1 else t
def untilL (d:Int) (l:List Int):List Int:=(l.zipIdx.filter fun x=>decide (x.1≤d)).map fun x=>(x.2:Int)
theorem z409 (a b:List Int):intRows a++intRows b=intRows (a++b):=by simp [intRows]
end Go.Ab
namespace Go.Ab
open Go.RowKit Go.Proofs
set_option maxHeartbeats 4000000
set_option maxRecDepth 20000
attribute [local irreducible] WalkL Walk
theorem z148 {s:Span} {lo hi:Int}:orderedB s lo hi=true↔lo≤s.lo∧s.lo≤s.hi∧s.hi≤hi:=by simp [orderedB]
structure Path.Good (n:Net) (x:Path):Prop where
 frm:0≤x.frm∧x.frm<n.places
 to:0≤x.to∧x.to<n.places
 ne:x.frm≠x.to
 grade:1≤x.grade∧x.grade≤6
 time:1≤x.time.lo∧x.time.lo≤x.time.hi∧x.time.hi≤600
 snow:0≤x.snow.lo∧x.snow.lo≤x.snow.hi∧x.snow.hi≤30
 len:x.opens.length≤6
 opens:∀ s ∈ x.opens,0≤s.lo∧s.lo≤s.hi∧s.hi≤2880
structure Net.Good (n:Net):Prop where
 places:1≤n.places∧n.places≤12
 paths:n.paths.length≤24
 path:∀ x ∈ n.paths,x.Good n
theorem z544 {n:Net} {x:Path}:wrongB n x=false↔x.Good n:=by
 unfold wrongB wrong1
 simp only [Bool.or_eq_false_iff,Bool.not_eq_false',z27,z148,beq_eq_false_iff_ne,decide_eq_false_iff_not,List.any_eq_false,Bool.not_eq_true']
 constructor
 ·rintro ⟨⟨h1,h2,h3,h4,h5,h6,h7⟩,h8⟩
  exact ⟨by omega,by omega,h3,h4,h5,h6,by omega,fun s hs=>z148.1 (by simpa using h8 s hs)⟩
 ·rintro ⟨h1,h2,h3,h4,h5,h6,h7,h8⟩
  exact ⟨⟨by omega,by omega,h3,h4,h5,h6,by omega⟩,fun s hs=>by simpa using z148.2 (h8 s hs)⟩
theorem z155 {n:Net}:¬ badNet n=true↔n.Good:=by
 have e:¬ badNet n=true↔badNet n=false:=by simp
 rw [e]
 unfold badNet
 simp only [Bool.or_eq_false_iff,Bool.not_eq_false',z27,decide_eq_false_iff_not,List.any_eq_false]
 constructor
 ·rintro ⟨h1,h2,h3⟩
  exact ⟨h1,by omega,fun x hx=>z544.1 (by simpa using h3 x hx)⟩
 ·rintro ⟨h1,h2,h3⟩
  exact ⟨h1,by omega,fun x hx=>by simpa using z544.2 (h3 x hx)⟩
theorem Net.Good.ok {n:Net} (h:n.Good):n.Ok :=
 ⟨by have:=h.places;omega,by have:=h.paths;omega,fun x hx=>(h.path x hx).frm,fun x hx=>(h.path x hx).to,fun x hx=>by have:=(h.path x hx).len;omega⟩
theorem Net.Good.hi {n:Net} (h:n.Good):∀ x ∈ n.paths,∀ s ∈ x.opens,s.hi≤2880:=fun x hx s hs=>((h.path x hx).opens s hs).2.2
structure Party.Good (p:Party):Prop where
 grade:1≤p.grade∧p.grade≤6
 pace:50≤p.pace.lo∧p.pace.lo≤p.pace.hi∧p.pace.hi≤300
 load:0≤p.load∧p.load≤40
theorem z178 {p:Party}:¬ badParty p=true↔p.Good:=by
 have e:¬ badParty p=true↔badParty p=false:=by simp
 rw [e]
 unfold badParty
 simp only [Bool.or_eq_false_iff,Bool.not_eq_false',z27,z148]
 exact ⟨fun ⟨h1,h2,h3⟩=>⟨h1,h2,h3⟩,fun ⟨h1,h2,h3⟩=>⟨h1,h2,h3⟩⟩
structure Opened (n:Net) (p:Party) (places minutes:List Int):Prop where
 net:n.Good
 party:p.Good
 place:∀ x ∈ places,0≤x∧x<n.places
 minute:∀ x ∈ minutes,0≤x∧x≤2880
theorem z840 {n:Net} {places minutes:List Int}:¬ badAsk n places minutes=true↔(∀ x ∈ places,0≤x∧x<n.places)∧∀ x ∈ minutes,0≤x∧x≤2880:=by
 have e:¬ badAsk n places minutes=true↔badAsk n places minutes=false:=by simp
 rw [e]
 unfold badAsk
 simp only [Bool.or_eq_false_iff,List.any_eq_false]
 constructor
 ·rintro ⟨h1,h2⟩
  exact ⟨fun x hx=>by have:=z27.1 (by simpa using h1 x hx);omega,fun x hx=>z27.1 (by simpa using h2 x hx)⟩
 ·rintro ⟨h1,h2⟩
  exact ⟨fun x hx=>by simpa using z27.2 (by have:=h1 x hx;omega),fun x hx=>by simpa using z27.2 (h2 x hx)⟩
theorem z223 {n:Net} {p:Party} {places minutes:List Int}:openF n p places minutes=0↔Opened n p places minutes:=by
 unfold openF
 constructor
 ·intro h
  split at h
  ·cases h
  ·rename_i h1
   split at h
   ·cases h
   ·rename_i h2
    split at h
    ·cases h
    ·rename_i h3
     exact ⟨z155.1 h1,z178.1 h2,(z840.1 h3).1,(z840.1 h3).2⟩
 ·rintro ⟨h1,h2,h3,h4⟩
  rw [if_neg (z155.2 h1),if_neg (z178.2 h2),if_neg (z840.2 ⟨h3,h4⟩)]
theorem z863 (n:Net) (p:Party) (q:Span→Int) (but:Int):∀ (k:Nat) (l:List Int),(fixA n p q but k l).length=l.length
 | 0,_=>rfl
 | k + 1,l=>by
  unfold fixA
  split
  ·rw [z863 n p q but k,passA,z183]
  ·rw [passA,z183]
theorem z184 (n:Net) (p:Party) (q:Span→Int) (frm start but:Int):(arrivalsL n p q frm start but).length=n.places.toNat:=by
 rw [arrivalsL,z863];simp [arrivals0]
def spanHi (s:Span):Int:=s.hi
def spanLo (s:Span):Int:=s.lo
def arriveL (n:Net) (p:Party) (frm start:Int):List Int × List Int × Int :=
 if openF n p [frm] [start]=0 then ((arrivalsL n p spanHi frm start (-1)).map told1,(arrivalsL n p spanLo frm start (-1)).map told1,0) else ([],[],openF n p [frm] [start])
theorem zf18 (n:Net) (p:Party) (frm start:Int) (hs:n.Small):Fn Try.prog 18 [.agg n.cells,.agg p.cells,.i frm,.i start]
  (.tup [.sl (intRows (arriveL n p frm start).1),.sl (intRows (arriveL n p frm start).2.1),.i (arriveL n p frm start).2.2]):=by
 have h41:=zf23 n p [frm] [start] hs (by simp) (by simp)
 refine z12 36 Try.call18 Try.func18 rfl (by decide) fun J=>?_
 simp only [go_sem,St.start,Try.ntmps18,Try.results18,Net.cells,Party.cells]
 repeat (first | refine nx ?_ | (refine z3 fun K hK=>?_;simp only [go_sem,walkCells];(repeat (first | (refine ⟨_,.lent (hf:=h41) (hd:=rfl) (hr:=rfl),?_⟩;simp only [go_sem,walkCells]) | (refine ⟨_,.given (hf:=h41) (hd:=rfl) (ha:=rfl),?_⟩;simp only [go_sem,walkCells])));apply hK;clear hK K))
 refine z4 rfl (fun hc=>?_) (fun hc=>?_)
 ·have hc:¬ openF n p [frm] [start]=0:=by simpa using hc
  repeat (first | refine nx ?_ | (refine z3 fun K hK=>?_;simp only [go_sem];apply hK;clear hK K))
  simp only [go_sem,arriveL,hc]
  rfl
 ·have hc:openF n p [frm] [start]=0:=by simpa using hc
  have ho:=z223.1 hc
  have hfr:=ho.place frm (by simp)
  have hpl:=ho.net.places
  have h42:=z1198 n p frm start (-1) 25 spanHi (fun s=>zf25 s) ho.net.ok hfr
  have h42':=z1198 n p frm start (-1) 48 spanLo (fun s=>zf48 s) ho.net.ok hfr
  have h59:=zf47 (arrivalsL n p spanHi frm start (-1)) (by rw [z184];omega)
  have h59':=zf47 (arrivalsL n p spanLo frm start (-1)) (by rw [z184];omega)
  repeat (first | refine nx ?_ | (refine z3 fun K hK=>?_;simp only [go_sem];apply hK;clear hK K))
  refine z6 (by kernel_rfl) (by kernel_rfl) fun K hK=>?_
  simp only [go_sem]
  refine ⟨_,.fnS (hdst:=rfl) (hf:=h42) (hd:=rfl) (hr:=.inr rfl) (hfr:=rfl),?_⟩
  simp only [go_sem]
  refine ⟨_,.inPlace (n:=29) (hf:=h59) (hn:=rfl) (hb:=rfl) (hla:=rfl) (ha:=z162 (by repeat (first | exact trivial | refine And.intro ?_ ?_ | exact z198 rfl | exact z142 rfl rfl))) (hx:=by first | decide | simp [AV.refsAll,AV.refs,AV.refs.AV.refss]),?_⟩
  simp only [go_sem]
  refine ⟨_,.fnS (hdst:=rfl) (hf:=h42') (hd:=rfl) (hr:=.inr rfl) (hfr:=rfl),?_⟩
  simp only [go_sem]
  refine ⟨_,.inPlace (n:=34) (hf:=h59') (hn:=rfl) (hb:=rfl) (hla:=rfl) (ha:=z162 (by repeat (first | exact trivial | refine And.intro ?_ ?_ | exact z198 rfl | exact z142 rfl rfl))) (hx:=by first | decide | simp [AV.refsAll,AV.refs,AV.refs.AV.refss]),?_⟩
  simp only [go_sem]
  refine ⟨by kernel_rfl,hK _ ?_⟩
  clear hK K
  repeat (first | refine nx ?_ | (refine z3 fun K hK=>?_;simp only [go_sem];apply hK;clear hK K))
  simp only [go_sem,arriveL,hc]
end Go.Ab
namespace Go.Ab
open Go.RowKit Go.Proofs
set_option maxHeartbeats 4000000
set_option maxRecDepth 20000
attribute [local irreducible] WalkL Walk
def refArriveL (n:Net) (p:Party) (frm start:Int):List Int × List Int × Int :=
 if openF n p [frm] [start]=0 then ((tableL n p frm start true (-1)).map shown1,(tableL n p frm start false (-1)).map shown1,0) else ([],[],openF n p [frm] [start])
def latestL (n:Net) (p:Party) (frm to deadline:Int):Int × Int :=
 if openF n p [frm,to] [deadline]=0 then (if getI (deadlinesL n p to deadline) frm=-1 then (0,3) else (getI (deadlinesL n p to deadline) frm,0)) else (0,openF n p [frm,to] [deadline])
def findDown (q:Int→Bool):Nat→Option Nat
 | 0=>none
 | k + 1=>if q k then some k else findDown q k
def refLatestL (n:Net) (p:Party) (frm to deadline:Int):Int × Int :=
 if openF n p [frm,to] [deadline]=0 then (match findDown (fun t=>decide (sureF n p frm t to (-1)≤deadline)) (deadline + 1).toNat with
  | some t=>((t:Int),0)
  | none=>(0,3)) else (0,openF n p [frm,to] [deadline])
end Go.Ab
namespace Go.Ab
open Go.RowKit Go.Proofs
set_option maxHeartbeats 4000000
set_option maxRecDepth 20000
attribute [local irreducible] WalkL Walk
def walkF (n:Net) (p:Party) (i:Int):Span × Int :=
 if checkPartyF n p=0 then (if withinB i 0 (n.paths.length - 1) then (match n.paths[i.toNat]? with
  | some x=>if x.grade≤p.grade then (spanW x p,0) else (⟨0,0⟩,3)
  | none=>(⟨0,0⟩,1)) else (⟨0,0⟩,1)) else (⟨0,0⟩,checkPartyF n p)
theorem zf67 (n:Net) (p:Party) (i:Int) (hs:n.Small):Fn Try.prog 67 [.agg n.cells,.agg p.cells,.i i] (.tup [.agg (walkF n p i).1.row,.i (walkF n p i).2]):=by
 have h73:=zf50 n p hs
 refine z12 39 Try.call67 Try.func67 rfl (by decide) fun J=>?_
 simp only [go_sem,St.start,Try.ntmps67,Try.results67,Net.cells,Party.cells]
 repeat (first | refine nx ?_ | (refine z3 fun K hK=>?_;simp only [go_sem,walkCells];(repeat (first | (refine ⟨_,.lent (hf:=h73) (hd:=rfl) (hr:=rfl),?_⟩;simp only [go_sem,walkCells]) | (refine ⟨_,.given (hf:=h73) (hd:=rfl) (ha:=rfl),?_⟩;simp only [go_sem,walkCells])));apply hK;clear hK K))
 refine z4 rfl (fun hc=>?_) (fun hc=>?_)
 ·have hc:¬ checkPartyF n p=0:=by simpa using hc
  repeat (first | refine nx ?_ | (refine z3 fun K hK=>?_;simp only [go_sem];apply hK;clear hK K))
  simp only [go_sem,walkF,hc]
  rfl
 ·have hop:checkPartyF n p=0:=by simpa using hc
  have hb:=hs.paths
  have hw:IntKind.i64.wrap ((n.paths.length:Int) - 1)=n.paths.length - 1:=z9 (by omega)
  repeat (first | refine nx ?_ | (refine z3 fun K hK=>?_;simp only [go_sem,hw];(repeat (first | (refine ⟨_,.lent (hf:=z972 i 0 (n.paths.length - 1)) (hd:=rfl) (hr:=rfl),?_⟩;simp only [go_sem,hw]) | (refine ⟨_,.given (hf:=z972 i 0 (n.paths.length - 1)) (hd:=rfl) (ha:=rfl),?_⟩;simp only [go_sem,hw])));apply hK;clear hK K))
  refine z4 rfl (fun hc=>?_) (fun hc=>?_)
  ·have hc:withinB i 0 (n.paths.length - 1)=false:=by simpa using hc
   repeat (first | refine nx ?_ | (refine z3 fun K hK=>?_;simp only [go_sem];apply hK;clear hK K))
   simp only [go_sem,walkF,hop,hc]
   rfl
  ·have hwi:withinB i 0 (n.paths.length - 1)=true:=by simpa using hc
   have hii:=z27.1 hwi
   obtain ⟨j,rfl⟩:∃ j:Nat,i=j:=⟨i.toNat,by omega⟩
   obtain ⟨x,hx⟩:∃ x,n.paths[j]?=some x:=⟨_,List.getElem?_eq_getElem (show j<n.paths.length by omega)⟩
   have h74:=zf57 n p j x hx
   have h51:=z1165 n p j x hx
   repeat (first | refine nx ?_ | (refine z3 fun K hK=>?_;simp only [go_sem];(repeat (first | (refine ⟨_,.lent (hf:=h74) (hd:=rfl) (hr:=rfl),?_⟩;simp only [go_sem]) | (refine ⟨_,.given (hf:=h74) (hd:=rfl) (ha:=rfl),?_⟩;simp only [go_sem])));apply hK;clear hK K))
   refine z4 rfl (fun hc=>?_) (fun hc=>?_)
   ·have hg:¬ x.grade≤p.grade:=by simpa using hc
    repeat (first | refine nx ?_ | (refine z3 fun K hK=>?_;simp only [go_sem];apply hK;clear hK K))
    simp only [go_sem,walkF,hop,hwi,Int.toNat_natCast,hx,hg]
    rfl
   ·have hg:x.grade≤p.grade:=by simpa using hc
    repeat (first | refine nx ?_ | (refine z3 fun K hK=>?_;simp only [go_sem,Span.row];(repeat (first | (refine ⟨_,.lent (hf:=h51) (hd:=rfl) (hr:=rfl),?_⟩;simp only [go_sem,Span.row]) | (refine ⟨_,.given (hf:=h51) (hd:=rfl) (ha:=rfl),?_⟩;simp only [go_sem,Span.row])));apply hK;clear hK K))
    simp only [go_sem,walkF,hop,hwi,Int.toNat_natCast,hx,hg,Span.row]
def selL (q:Nat→Bool) (k:Nat):List Int:=((List.range k).filter q).map fun (i:Nat)=>(i:Int)
theorem z997 (q:Nat→Bool) (k:Nat):selL q (k + 1)=selL q k++if q k then [(k:Int)] else []:=by
 simp only [selL,List.range_succ,List.filter_append,List.map_append]
 congr 1
 by_cases h:q k <;> simp [h]
theorem z849 (q:Nat→Bool) (k:Nat):(selL q k).length≤k:=by
 unfold selL
 rw [List.length_map]
 exact Nat.le_trans (List.length_filter_le _ _) (by simp)
def vitalL (n:Net) (p:Party) (frm start to deadline:Int):List Int × Int :=
 if openF n p [frm,to] [start,deadline]=0 then (if getI (arrivalsL n p spanHi frm start (-1)) to > deadline then ([],3) else (selL (fun (i:Nat)=>decide (getI (arrivalsL n p spanHi frm start (i:Int)) to > deadline)) n.paths.length,0))
 else ([],openF n p [frm,to] [start,deadline])
def refVitalL (n:Net) (p:Party) (frm start to deadline:Int):List Int × Int :=
 if openF n p [frm,to] [start,deadline]=0 then (if sureF n p frm start to (-1) > deadline then ([],3) else (selL (fun (i:Nat)=>decide (sureF n p frm start to (i:Int) > deadline)) n.paths.length,0))
 else ([],openF n p [frm,to] [start,deadline])
def withinL (n:Net) (p:Party) (frm start deadline:Int):List Int × List Int × Int :=
 if openF n p [frm] [start,deadline]=0 then (untilL deadline (arrivalsL n p spanHi frm start (-1)),untilL deadline (arrivalsL n p spanLo frm start (-1)),0) else ([],[],openF n p [frm] [start,deadline])
def refWithinL (n:Net) (p:Party) (frm start deadline:Int):List Int × List Int × Int :=
 if openF n p [frm] [start,deadline]=0 then (untilL deadline (tableL n p frm start true (-1)),untilL deadline (tableL n p frm start false (-1)),0) else ([],[],openF n p [frm] [start,deadline])
end Go.Ab
namespace Go.Ab
open Go.RowKit Go.Proofs
set_option maxHeartbeats 4000000
set_option maxRecDepth 20000
attribute [local irreducible] WalkL Walk
theorem z1131 (c:Int) (m:Nat) (h:m<2 ^ 30):FnS Try.prog 29 [.sl [[.i c]],.i m] 3 1 (intRows (List.replicate m c)):=by
 rw [← z136];exact zf29 c m h
def relaxS (p:Party) (now next:List Int) (w:Nat × Path):List Int :=
 if getI now w.2.frm=never then next else next.set w.2.to.toNat (min (getI next w.2.to) (arriveF w.2.opens (getI now w.2.frm) (spanW w.2 p).hi))
def nextS (n:Net) (p:Party) (now:List Int):List Int:=(waysL n p (-1)).foldl (relaxS p now) (List.replicate n.places.toNat never)
def nowS (n:Net) (p:Party) (frm start:Int) (k:Nat):List Int:=iterL (nextS n p) k (arrivals0 n frm start)
def stepsL (n:Net) (p:Party) (frm start:Int) (k:Nat):List (List Int):=(List.range (k + 1)).map (nowS n p frm start)
theorem z938 (p:Party) (now next:List Int) (w:Nat × Path):(relaxS p now next w).length=next.length:=by unfold relaxS;split <;> simp
theorem z342 (p:Party) (now:List Int):∀ (ws:List (Nat × Path)) (l:List Int),(ws.foldl (relaxS p now) l).length=l.length
 | [],_=>rfl
 | w::ws,l=>by rw [List.foldl_cons,z342 p now ws,z938]
theorem z1019 (n:Net) (p:Party) (now:List Int):(nextS n p now).length=n.places.toNat:=by rw [nextS,z342];simp
theorem z855 (n:Net) (p:Party) (frm start:Int):∀ k,(nowS n p frm start k).length=n.places.toNat
 | 0=>by simp [nowS,iterL,arrivals0]
 | k + 1=>z1019 n p _
def slRows (ls:List (List Int)):List (List DV):=ls.map fun l=>[.sl (intRows l)]
theorem z803 (n:Net) (p:Party) (frm start:Int) (k:Nat):slRows (stepsL n p frm start (k + 1))=slRows (stepsL n p frm start k)++[[.sl (intRows (nextS n p (nowS n p frm start k)))]]:=by
 simp only [slRows,stepsL]
 rw [List.range_succ (n:=k + 1),List.map_append,List.map_append]
 rfl
theorem zf27 (n:Net) (p:Party) (frm start:Int) (hn:n.Ok) (h1:1≤n.places) (hfr:0≤frm∧frm<n.places) :
  FnS Try.prog 27 [.agg (walkCells n p),.i frm,.i start] 32 1 (slRows (stepsL n p frm start (n.places.toNat - 1))):=by
 obtain ⟨m,hm⟩:∃ m:Nat,n.places=m:=⟨n.places.toNat,by have:=hn.places.1;omega⟩
 have hpl:=hn.places
 have htn:n.places.toNat=m:=by omega
 have h47:FnS Try.prog 29 [.sl [[.i never]],.i n.places] 3 1 (intRows (List.replicate m never)):=by rw [hm];exact z1131 never m (by omega)
 have hw1:IntKind.i64.wrap (n.places - 1)=n.places - 1:=z9 (by omega)
 have hlt:frm.toNat<m:=by omega
 have hg:(intRows (List.replicate m never))[frm.toNat]?=some [.i never]:=by simp [intRows,hlt]
 have hrl:(intRows (List.replicate m never)).length=m:=by simp [intRows]
 have hset:(List.replicate m never).set frm.toNat start=nowS n p frm start 0:=by rw [nowS,iterL,arrivals0,hm];rfl
 have hg0:(intRows (nowS n p frm start 0))[frm.toNat]?=some [.i start]:=by rw [← hset];simp [intRows,hlt]
 refine z238 73 Try.call27 Try.func27 rfl (by decide) fun J=>?_
 simp only [go_sem,St.start,Try.ntmps27,Try.results27,walkCells]
 repeat (first | refine nx ?_ | (refine z3 fun K hK=>?_;simp only [go_sem];apply hK;clear hK K))
 refine z3 fun K hK=>?_
 simp only [go_sem]
 refine ⟨_,.lentS (hdst:=rfl) (hf:=h47) (hd:=rfl) (hr:=by first | exact z44 _ | exact rowsFlat_hour _ | exact rowsFlat_sight _ | exact rowsFlat_sky _ | exact rowsFlat_span _ | exact rowsFlat_bool _) (hfr:=rfl),?_⟩
 simp only [go_sem]
 apply hK
 clear hK K
 repeat (first | refine nx ?_ | (refine z3 fun K hK=>?_;simp only [go_sem,hlt,hg,hrl,hfr.1,z42,hset,hw1,hg0];apply hK;clear hK K))
 refine z18 (fun (k:Nat)=>[(27,.d (.i k)),(8,.own 22),(22,.undef)]) (fun k=>[(7,some (.box [.d (.sl (intRows (nowS n p frm start k)))])),(22,some (.arr 32 1 (slRows (stepsL n p frm start k))))]) (fun k=>k≤m - 1) (fun k=>m - 1 - k) 0 ?_ (Nat.zero_le _) ?_
 ·simp only [go_sem]
  refine weA ?_ ?_ <;> simp
  rfl
 ·intro k hk
  obtain ⟨now,hnow⟩:∃ now,now=nowS n p frm start k:=⟨_,rfl⟩
  have hnl:now.length=m:=by rw [hnow,z855];exact htn
  have hsn:=z803 n p frm start k
  rw [← hnow] at hsn ⊢
  obtain ⟨rows,hrows⟩:∃ rows,rows=slRows (stepsL n p frm start k):=⟨_,rfl⟩
  have hrowl:rows.length=k + 1:=by rw [hrows];simp [slRows,stepsL]
  rw [← hrows] at hsn ⊢
  simp only [go_sem]
  repeat (first | refine nx ?_ | (refine z3 fun K hK=>?_;simp only [go_sem];apply hK;clear hK K))
  refine z4 rfl (fun hb=>?_) (fun hb=>?_)
  ·have hb:(k:Int)<n.places - 1:=by simpa using hb
   have hlk:k<m - 1:=by omega
   have hw:IntKind.i64.wrap ((k:Int) + 1)=((k + 1:Nat):Int):=by rw [z9 (by omega)];simp
   repeat (first | refine nx ?_ | (refine z3 fun K hK=>?_;simp only [go_sem];apply hK;clear hK K))
   refine z3 fun K hK=>?_
   simp only [go_sem]
   refine ⟨_,.lentS (hdst:=rfl) (hf:=h47) (hd:=rfl) (hr:=by first | exact z44 _ | exact rowsFlat_hour _ | exact rowsFlat_sight _ | exact rowsFlat_sky _ | exact rowsFlat_span _ | exact rowsFlat_bool _) (hfr:=rfl),?_⟩
   simp only [go_sem]
   apply hK
   clear hK K
   repeat (first | refine nx ?_ | (refine z3 fun K hK=>?_;simp only [go_sem];(repeat (first | (refine ⟨_,.lent (hf:=z1134 n p (-1)) (hd:=rfl) (hr:=rfl),?_⟩;simp only [go_sem]) | (refine ⟨_,.given (hf:=z1134 n p (-1)) (hd:=rfl) (ha:=rfl),?_⟩;simp only [go_sem])));apply hK;clear hK K))
   refine z126 (g:=.tmp 35) rfl (z859 n p (-1) (by have:=hn.paths;omega)) (by intro row hr;obtain ⟨w,_,rfl⟩:=List.mem_map.1 hr;rfl) (fun _=>[]) (fun (a:List Int)=>[(33,some (.arr 3 1 (intRows a)))])
    (fun i a=>a=((waysL n p (-1)).take i).foldl (relaxS p now) (List.replicate m never)) (fun _ _=>False) (List.replicate m never) ?_ rfl ?_ ?_ (fun _ _ h=>h.elim)
   ·simp only [go_sem]
    refine weA ?_ ?_ <;> simp
   ·intro i a row hi ha l2 m2
    simp only [List.getElem?_map,Option.map_eq_some_iff] at hi
    obtain ⟨w,hw1,rfl⟩:=hi
    have hx:=z56 (List.mem_of_getElem? hw1)
    have hmem:=List.mem_of_getElem? hx
    have hlen:a.length=m:=by rw [ha,z342];simp
    have hf:=hn.frm w.2 hmem
    have ht:=hn.to w.2 hmem
    have g1:(intRows a)[w.2.to.toNat]?=some [.i (getI a w.2.to)]:=z36 ht.1 (by omega)
    have g2:(intRows now)[w.2.frm.toNat]?=some [.i (getI now w.2.frm)]:=z36 hf.1 (by omega)
    have g3:w.2.to.toNat<(intRows a).length:=by rw [z16];omega
    have g4:w.2.frm.toNat<(intRows now).length:=by rw [z16];omega
    have h50:=z1197 n p w.1 w.2 (getI now w.2.frm) (spanW w.2 p).hi hx (by have:=hn.opens w.2 hmem;omega)
    have h51:=z1165 n p w.1 w.2 hx
    have hnext:((waysL n p (-1)).take (i + 1)).foldl (relaxS p now) (List.replicate m never)=relaxS p now a w:=by rw [ha];exact z40 _ _ _ _ _ hw1
    simp only [go_sem,wayRow,Path.row]
    repeat (first | refine nx ?_ | (refine z3 fun K hK=>?_;simp only [go_sem,g1,g2,g3,g4,ht.1,hf.1];apply hK;clear hK K))
    refine z4 rfl (fun hc=>?_) (fun hc=>?_)
    ·have hnv:¬ getI now w.2.frm=never:=by intro e;rw [e] at hc;simp [never] at hc
     repeat (first | refine nx ?_ | (refine z3 fun K hK=>?_;simp only [go_sem];apply hK;clear hK K))
     refine z6 (by kernel_rfl) (by kernel_rfl) fun K hK=>?_
     simp only [go_sem,g1,g2,g3,g4,ht.1,hf.1]
     refine ⟨_,.fn (hf:=h51) (hd:=rfl) (hr:=.inl rfl),?_⟩
     simp only [go_sem,Span.row,g1,g2,g3,g4,ht.1,hf.1]
     refine ⟨_,.fn (hf:=h50) (hd:=rfl) (hr:=.inl rfl),?_⟩
     simp only [go_sem,g1,g2,g3,g4,ht.1,hf.1]
     refine ⟨by kernel_rfl,hK _ ?_⟩
     clear hK K
     repeat (first | refine nx ?_ | (refine z3 fun K hK=>?_;simp only [go_sem];apply hK;clear hK K))
     refine ⟨rfl,relaxS p now a w,?_,hnext.symm⟩
     rw [relaxS,if_neg hnv,← z42]
     simp only [go_sem]
     refine weA ?_ ?_ <;> simp
    ·have hcv:getI now w.2.frm=never:=by simpa [never] using hc
     repeat (first | refine nx ?_ | (refine z3 fun K hK=>?_;simp only [go_sem];apply hK;clear hK K))
     refine ⟨rfl,relaxS p now a w,?_,hnext.symm⟩
     rw [relaxS,if_pos hcv]
     simp only [go_sem]
     refine weA ?_ ?_ <;> simp
   ·intro a ha
    rw [List.length_map,List.take_length] at ha
    have ha:a=nextS n p now:=by rw [ha,nextS,htn]
    have hfit:rows.length + 1≤549755813888:=by omega
    simp only [go_sem]
    repeat (first | refine nx ?_ | (refine z3 fun K hK=>?_;simp only [go_sem,hfit,hw];apply hK;clear hK K))
    have hnow1:nowS n p frm start (k + 1)=a:=by rw [ha,hnow];rfl
    refine ⟨rfl,k + 1,?_,by omega,by omega⟩
    rw [hnow1,hsn,← ha]
    refine weA ?_ ?_ <;> simp
  ·have he:k=m - 1:=by (have:¬ (k:Int)<n.places - 1:=by simpa using hb);omega
   subst he
   repeat (first | refine nx ?_ | (refine z3 fun K hK=>?_;simp only [go_sem];apply hK;clear hK K))
   simp only [go_sem,hrows,htn]
end Go.Ab
namespace Go.Ab
open Go.RowKit Go.Proofs
set_option maxHeartbeats 8000000
set_option maxRecDepth 40000
attribute [local irreducible] WalkL Walk
theorem zf28 (l:List Int) (to arr:Int) (h:0≤to∧to.toNat<l.length):Fn Try.prog 28 [.sl (intRows l),.ptr [.i to] 0,.ptr [.i arr] 0] (.bool (getI l to == arr)):=by
 have hg:(intRows l)[to.toNat]?=some [.i (getI l to)]:=z36 h.1 h.2
 refine z12 11 Try.call28 Try.func28 rfl (by decide) fun J=>?_
 simp only [go_sem,St.start,Try.ntmps28,Try.results28]
 repeat (first | refine nx ?_ | (refine z3 fun K hK=>?_;simp only [go_sem];apply hK;clear hK K))
 refine z6 (by kernel_rfl) (by kernel_rfl) fun K hK=>?_
 simp only [go_sem,hg,h.1]
 refine ⟨by kernel_rfl,hK _ ?_⟩
 clear hK K
 repeat (first | refine nx ?_ | (refine z3 fun K hK=>?_;simp only [go_sem];apply hK;clear hK K))
 simp only [go_sem]
def relaxBy (p:Party) (cur next:List Int) (w:Nat × Path):List Int :=
 next.set w.2.frm.toNat (max (getI next w.2.frm) (latestF w.2.opens (wr (getI cur w.2.to - (spanW w.2 p).hi))))
def byNext (n:Net) (p:Party) (cur:List Int):List Int:=(waysL n p (-1)).foldl (relaxBy p cur) (List.replicate n.places.toNat (-1))
def byL (n:Net) (p:Party) (to arr:Int) (k:Nat):List Int:=iterL (byNext n p) k (deadlines0 n to arr)
theorem z325 (p:Party) (cur next:List Int) (w:Nat × Path):(relaxBy p cur next w).length=next.length:=by unfold relaxBy;simp
theorem z267 (p:Party) (cur:List Int):∀ (ws:List (Nat × Path)) (l:List Int),(ws.foldl (relaxBy p cur) l).length=l.length
 | [],_=>rfl
 | w::ws,l=>by rw [List.foldl_cons,z267 p cur ws,z325]
theorem z968 (n:Net) (p:Party) (cur:List Int):(byNext n p cur).length=n.places.toNat:=by rw [byNext,z267];simp
theorem z1050 (n:Net) (p:Party) (to arr:Int):∀ k,(byL n p to arr k).length=n.places.toNat
 | 0=>by simp [byL,iterL,deadlines0]
 | k + 1=>z968 n p _
abbrev RSt:=List Int × Int × Int
def fitsR (p:Party) (cur:List Int) (s:RSt) (w:Nat × Path):Bool:=(w.2.frm == s.2.1) && decide (arriveF w.2.opens s.2.2 (spanW w.2 p).hi≤getI cur w.2.to)
def stepR (n:Net) (p:Party) (cur:List Int) (s:RSt):RSt:=match (waysL n p (-1)).find? (fitsR p cur s) with
 | some w=>(s.1++[(w.1:Int)],w.2.to,arriveF w.2.opens s.2.2 (spanW w.2 p).hi)
 | none=>s
def routeD (n:Net) (p:Party) (to arr:Int):Nat→RSt→RSt
 | 0,s=>s
 | k + 1,s=>routeD n p to arr k (stepR n p (byL n p to arr k) s)
def fewest (n:Net) (p:Party) (frm start to arr:Int):Int:=idxFrom (fun l=>getI l to == arr) (stepsL n p frm start (n.places.toNat - 1)) 0
def routeL (n:Net) (p:Party) (frm start to:Int):List Int × Int × Int :=
 if openF n p [frm,to] [start]=0 then
  (let arr:=getI (arrivalsL n p spanHi frm start (-1)) to
   if arr=never then ([],0,3) else ((routeD n p to arr (fewest n p frm start to arr).toNat ([],frm,start)).1,arr,0))
 else ([],0,openF n p [frm,to] [start])
def bySt (n:Net) (p:Party) (to arr:Int) (k:Nat):List (Option Blk):=(List.range (k + 1)).map fun i=>some (.arr 3 1 (intRows (byL n p to arr i)))
def byRow (K k:Nat):List AV:=(List.range (k + 1)).map (fun i=>AV.own (i + 162))++List.replicate (K - k) (.d (.sl []))
theorem z17 (n:Net) (p:Party) (to arr:Int) (k:Nat):(bySt n p to arr k).length=k + 1:=by simp [bySt]
theorem z21 (n:Net) (p:Party) (to arr:Int) (k:Nat):(bySt n p to arr k).all Option.isSome=true:=by simp [bySt]
theorem z866 (n:Net) (p:Party) (to arr:Int) (k i:Nat) (h:i≤k):(bySt n p to arr k)[i]?=some (some (.arr 3 1 (intRows (byL n p to arr i)))):=by
 simp [bySt,show i<k + 1 by omega]
theorem z1123 (n:Net) (p:Party) (to arr:Int) (k:Nat) (h:Nat→Option Nat):(bySt n p to arr k).map (Option.map (Blk.mapN h))=bySt n p to arr k:=by
 simp [bySt,Blk.mapN]
theorem z1048 (n:Net) (p:Party) (to arr:Int) (k:Nat):bySt n p to arr (k + 1)=bySt n p to arr k++[some (.arr 3 1 (intRows (byNext n p (byL n p to arr k))))]:=by
 rw [bySt,List.range_succ,List.map_append];rfl
theorem z352 (K k:Nat) (h:k≤K):(byRow K k).length=K + 1:=by simp [byRow];omega
theorem z243 (K k i:Nat) (h:i≤k):(byRow K k)[i]?=some (.own (i + 162)):=by
 unfold byRow
 rw [List.getElem?_append_left (by simp;omega)]
 simp [show i<k + 1 by omega]
theorem z967 (K k:Nat) (h:k<K):((byRow K k).take (k + 1)++(AV.own 82::(byRow K k).drop (k + 1 + 1))).map (AV.mapN (mv 82 (k + 1 + 162)))=byRow K (k + 1):=by
 have h1:(byRow K k).take (k + 1)=(List.range (k + 1)).map fun i=>AV.own (i + 162):=by
  unfold byRow;exact List.take_left' (by simp)
 have h2:(byRow K k).drop (k + 1 + 1)=List.replicate (K - (k + 1)) (.d (.sl [])):=by
  unfold byRow
  rw [List.drop_append]
  simp only [List.length_map,List.length_range,List.drop_replicate]
  rw [List.drop_eq_nil_of_le (by simp),List.nil_append]
  congr 1
  omega
 rw [h1,h2]
 rw [List.map_append,List.map_map,List.map_cons,List.map_replicate]
 simp only [AV.mapN]
 have e:mv 82 (k + 1 + 162) 82=some (k + 1 + 162):=by simp [mv]
 rw [e]
 unfold byRow
 rw [List.range_succ (n:=k + 1),List.map_append,List.append_assoc]
 congr 1
theorem z194 {news:List Nat}:∀ {m:List (Option Blk)} {i:Nat},(∀ n ∈ news,n<i)→lessM news i m m
 | [],_,_=>trivial
 | x::m,i,h=>by
  have hi:i ∉ news:=fun hc=>by have:=h i hc;omega
  refine ⟨?_,z194 fun n hn=>Nat.lt_succ_of_lt (h n hn)⟩
  rcases x with _ | b
  ·exact .inr rfl
  ·cases b <;> first | exact ⟨hi,z11 _ _⟩ | exact ⟨hi,rfl,rfl,rfl⟩
theorem z20 (n:Net) (p:Party) (to arr:Int) (k:Nat) (b:Option Blk):lessM [] 162 (bySt n p to arr k++[b]) (bySt n p to arr k++[b]):=z194 (by simp)
theorem z15 (n:Net) (p:Party) (to arr:Int) (k:Nat):lessM [] 162 (bySt n p to arr k) (bySt n p to arr k):=z194 (by simp)
theorem z209 (n:Net) (p:Party) (to arr:Int) (k:Nat):lessM [155] 162 (bySt n p to arr k) (bySt n p to arr k):=z194 (by simp)
theorem z259 {m:List (Option Blk)}:∀ {l:List (Option Blk)},(∀ x ∈ l,∃ e z rows,x=some (.arr e z rows))→liveM m l=true
 | [],_=>rfl
 | x::l,h=>by
  obtain ⟨e,z,rows,rfl⟩:=h x (by simp)
  exact z259 (l:=l) fun y hy=>h y (by simp [hy])
theorem z14 (m:List (Option Blk)) (n:Net) (p:Party) (to arr:Int) (k:Nat):liveM m (bySt n p to arr k)=true :=
 z259 fun x hx=>by obtain ⟨i,_,rfl⟩:=List.mem_map.1 hx;exact ⟨_,_,_,rfl⟩
theorem z19 (m:List (Option Blk)) (n:Net) (p:Party) (to arr:Int) (k e z:Nat) (rows:List (List DV)):liveM m (bySt n p to arr k++[some (.arr e z rows)])=true :=
 z259 fun x hx=>by
  rcases List.mem_append.1 hx with hx | hx
  ·obtain ⟨i,_,rfl⟩:=List.mem_map.1 hx;exact ⟨_,_,_,rfl⟩
  ·simp at hx;exact ⟨_,_,_,hx⟩
theorem z24 {m:List (Option Blk)} {K k:Nat} (h1:(m.drop 162).length=k + 1) (h2:(m.drop 162).all Option.isSome=true):(byRow K k).all (liveB m)=true:=by
 rw [List.all_eq_true]
 intro x hx
 unfold byRow at hx
 rcases List.mem_append.1 hx with hx | hx
 ·obtain ⟨i,hi,rfl⟩:=List.mem_map.1 hx
  have hi:i<k + 1:=by simpa using hi
  have hlt:i<(m.drop 162).length:=by omega
  have hs:=List.all_eq_true.1 h2 ((m.drop 162)[i]) (List.getElem_mem hlt)
  obtain ⟨b,hb⟩:=Option.isSome_iff_exists.1 hs
  have:m[i + 162]?=some (some b):=by
   rw [Nat.add_comm,← List.getElem?_drop,List.getElem?_eq_getElem hlt,hb]
  simp [liveB,AV.refs,this]
 ·rw [List.eq_of_mem_replicate hx];rfl
theorem z1049 (K k a:Nat) (f:AV→AV) (ha:a<162):(byRow K k).map (AV.sub a f)=byRow K k:=by
 unfold byRow
 rw [List.map_append,List.map_map,List.map_replicate]
 congr 1
 refine List.map_congr_left fun i _=>?_
 have:¬ i + 162=a:=by omega
 simp [AV.sub,this]
theorem z317 (a:Nat) (f:AV→AV):∀ {l:List (Option Blk)},(∀ x ∈ l,∃ e z rows,x=some (.arr e z rows))→subMem a f l=l
 | [],_=>rfl
 | x::l,h=>by
  obtain ⟨e,z,rows,rfl⟩:=h x (by simp)
  rw [subMem,z317 a f fun y hy=>h y (by simp [hy])]
  rfl
theorem z1122 (n:Net) (p:Party) (to arr:Int) (k a:Nat) (f:AV→AV):subMem a f (bySt n p to arr k)=bySt n p to arr k :=
 z317 a f fun x hx=>by obtain ⟨i,_,rfl⟩:=List.mem_map.1 hx;exact ⟨_,_,_,rfl⟩
theorem z203 {α:Type} {q:α→Bool} {l:List α} {i:Nat} {x:α} (h:l[i]?=some x) (h0:(l.take i).find? q=none) (hx:q x=false):(l.take (i + 1)).find? q=none:=by
 rw [List.take_add_one,h,List.find?_append,h0];simp [hx]
theorem z1157 {α:Type} {q:α→Bool} {l:List α} {i:Nat} {x:α} (h:l[i]?=some x) (h0:(l.take i).find? q=none) (hx:q x=true):l.find? q=some x:=by
 rw [← List.take_append_drop i l,List.find?_append,h0,z69 h];simp [hx]
theorem zf9 (n:Net) (p:Party) (frm start to:Int) (hs:n.Small)
  (hfew:openF n p [frm,to] [start]=0→getI (arrivalsL n p spanHi frm start (-1)) to≠never→∃ K:Nat,fewest n p frm start to (getI (arrivalsL n p spanHi frm start (-1)) to)=K∧K<2 ^ 20) :
  Fn Try.prog 9 [.agg n.cells,.agg p.cells,.i frm,.i start,.i to]
  (.tup [.sl (intRows (routeL n p frm start to).1),.i (routeL n p frm start to).2.1,.i (routeL n p frm start to).2.2]):=by
 have h41:=zf23 n p [frm,to] [start] hs (by simp) (by simp)
 refine z12 162 Try.call9 Try.func9 rfl (by decide) fun J=>?_
 simp only [go_sem,St.start,Try.ntmps9,Try.results9,Net.cells,Party.cells]
 repeat (first | refine nx ?_ | (refine z3 fun K hK=>?_;simp only [go_sem,walkCells];(repeat (first | (refine ⟨_,.lent (hf:=h41) (hd:=rfl) (hr:=rfl),?_⟩;simp only [go_sem,walkCells]) | (refine ⟨_,.given (hf:=h41) (hd:=rfl) (ha:=rfl),?_⟩;simp only [go_sem,walkCells])));apply hK;clear hK K))
 refine z4 rfl (fun hc=>?_) (fun hc=>?_)
 ·have hc:¬ openF n p [frm,to] [start]=0:=by simpa using hc
  repeat (first | refine nx ?_ | (refine z3 fun K hK=>?_;simp only [go_sem];apply hK;clear hK K))
  simp only [go_sem,routeL,hc]
  rfl
 have hop:openF n p [frm,to] [start]=0:=by simpa using hc
 have ho:=z223.1 hop
 have hfr:=ho.place frm (by simp)
 have hto:=ho.place to (by simp)
 have hpl:=ho.net.places
 have hlen:=z184 n p spanHi frm start (-1)
 obtain ⟨arr,harr⟩:∃ arr,arr=getI (arrivalsL n p spanHi frm start (-1)) to:=⟨_,rfl⟩
 have hrl:routeL n p frm start to=if arr=never then ([],0,3) else ((routeD n p to arr (fewest n p frm start to arr).toNat ([],frm,start)).1,arr,0):=by
  rw [routeL,if_pos hop,harr]
 rw [hrl]
 have hg:(intRows (arrivalsL n p spanHi frm start (-1)))[to.toNat]?=some [.i arr]:=by rw [harr];exact z36 hto.1 (by omega)
 have hlt:to.toNat<(intRows (arrivalsL n p spanHi frm start (-1))).length:=by rw [z16];omega
 have h42:=z1198 n p frm start (-1) 25 spanHi (fun s=>zf25 s) ho.net.ok hfr
 repeat (first | refine nx ?_ | (refine z3 fun K hK=>?_;simp only [go_sem];apply hK;clear hK K))
 refine z6 (by kernel_rfl) (by kernel_rfl) fun K hK=>?_
 simp only [go_sem]
 refine ⟨_,.fnS (hdst:=rfl) (hf:=h42) (hd:=rfl) (hr:=.inr rfl) (hfr:=rfl),?_⟩
 simp only [go_sem,hg,hlt,hto.1]
 refine ⟨by kernel_rfl,hK _ ?_⟩
 clear hK K
 repeat (first | refine nx ?_ | (refine z3 fun K hK=>?_;simp only [go_sem];apply hK;clear hK K))
 refine z4 rfl (fun hc=>?_) (fun hc=>?_)
 ·have hc:arr=never:=by simpa [never] using hc
  repeat (first | refine nx ?_ | (refine z3 fun K hK=>?_;simp only [go_sem];apply hK;clear hK K))
  simp only [go_sem,hc]
  rfl
 have hnv:¬ arr=never:=by intro e;rw [e] at hc;simp [never] at hc
 obtain ⟨kn,hKe,hKb⟩:=hfew hop (by rw [← harr];exact hnv)
 rw [← harr] at hKe
 have h45:=zf27 n p frm start ho.net.ok hpl.1 hfr
 have h46:∀ l ∈ stepsL n p frm start (n.places.toNat - 1),Fn Try.prog 28 [.sl (intRows l),.ptr [.i to] 0,.ptr [.i arr] 0] (.bool (getI l to == arr)):=by
  intro l hl
  obtain ⟨k,_,rfl⟩:=List.mem_map.1 hl
  exact zf28 _ to arr ⟨hto.1,by rw [z855];omega⟩
 have h44:=zf26 (stepsL n p frm start (n.places.toNat - 1)) 28 [.ptr [.i to] 0,.ptr [.i arr] 0] _ h46 (by simp [stepsL];omega)
 rw [show idxFrom (fun s=>getI s to == arr) (stepsL n p frm start (n.places.toNat - 1)) 0=(kn:Int) from hKe] at h44
 repeat (first | refine nx ?_ | (refine z3 fun K hK=>?_;simp only [go_sem];apply hK;clear hK K))
 refine z3 fun K hK=>?_
 simp only [go_sem]
 refine ⟨_,.givenS (hdst:=rfl) (hf:=h45) (hd:=rfl) (ha:=rfl) (hfr:=rfl),?_⟩
 simp only [go_sem]
 refine ⟨_,.lent (hf:=h44) (hd:=rfl) (hr:=rfl),?_⟩
 simp only [go_sem]
 apply hK
 clear hK K
 have hw1:IntKind.i64.wrap ((kn:Int) + 1)=((kn + 1:Nat):Int):=by rw [z9 (by omega)];simp
 have hmk:((kn + 1:Nat):Int)≤1099511627776:=by omega
 refine z33 ?_
 refine z3 fun K hK=>?_
 simp only [go_sem,hw1,hmk]
 apply hK
 clear hK K
 refine z33 ?_
 refine z712 57 ?_
 simp only [go_sem,List.map_replicate]
 refine z70 [25,26,27,28,29,30,31,32,33,34,35,36,37,38,39,40,41,42,43,44,45,46,47,48,49,50,51,52,53,54,55,56] ?_ ?_
 ·simp only [go_sem]
  refine z32 [] ?_ ?_ ?_ ?_
  ·simp [lessT,z11,AV.less]
  ·simp [lessM,lessB,lessT,z11,AV.less,List.all_replicate]
  ·first | rfl | simp [liveB,AV.refs,AV.refs.AV.refss,List.all_replicate]
  ·first | rfl | simp [liveM,liveB,AV.refs,AV.refs.AV.refss,List.all_replicate]
 simp only [go_sem]
 obtain ⟨m,hm⟩:∃ m:Nat,n.places=m:=⟨n.places.toNat,by omega⟩
 have hpos:0<kn + 1:=by omega
 have htn:n.places.toNat=m:=by omega
 have h47:FnS Try.prog 29 [.sl [[.i (-1)]],.i n.places] 3 1 (intRows (List.replicate m (-1))):=by rw [hm];exact z1131 (-1) m (by omega)
 refine z6 (by kernel_rfl) (by kernel_rfl) fun K hK=>?_
 simp only [go_sem]
 refine ⟨_,.fnS (hdst:=rfl) (hf:=h47) (hd:=rfl) (hr:=.inl (z44 _)) (hfr:=rfl),?_⟩
 simp only [go_sem,Nat.le_add_left,hpos]
 refine ⟨by kernel_rfl,hK _ ?_⟩
 clear hK K
 refine z33 ?_
 refine z420 63 ?_
 simp only [go_sem,List.map_replicate]
 refine z70 [58,59,60,61,62,63,64] ?_ ?_
 ·simp only [go_sem]
  refine z32 [] ?_ ?_ ?_ ?_
  ·simp [lessT,z11,AV.less]
  ·simp [lessM,lessB,lessT,z11,AV.less,List.all_replicate]
  ·first | rfl | simp [liveB,AV.refs,AV.refs.AV.refss,List.all_replicate]
  ·first | rfl | simp [liveM,liveB,AV.refs,AV.refs.AV.refss,List.all_replicate]
 simp only [go_sem]
 have hltm:to.toNat<m:=by omega
 have hg0:(intRows (List.replicate m (-1)))[to.toNat]?=some [.i (-1)]:=by simp [intRows,hltm]
 have hl0:to.toNat<(intRows (List.replicate m (-1))).length:=by simp [intRows,hltm]
 have hset0:(List.replicate m (-1)).set to.toNat arr=byL n p to arr 0:=by rw [byL,iterL,deadlines0,htn]
 refine z6 (by kernel_rfl) (by kernel_rfl) fun K hK=>?_
 simp only [go_sem,hg0,hl0,hto.1,z42,hset0,hpos]
 refine ⟨by kernel_rfl,hK _ ?_⟩
 clear hK K
 repeat (first | refine nx ?_ | (refine z3 fun K hK=>?_;simp only [go_sem];apply hK;clear hK K))
 refine z70 [65,66,67,68,69,70] ?_ ?_
 ·simp only [go_sem]
  refine z32 [] ?_ ?_ ?_ ?_
  ·simp [lessT,z11,AV.less]
  ·simp [lessM,lessB,lessT,z11,AV.less,List.all_replicate]
  ·first | rfl | simp [liveB,AV.refs,AV.refs.AV.refss,List.all_replicate]
  ·first | rfl | simp [liveM,liveB,AV.refs,AV.refs.AV.refss,List.all_replicate]
 simp only [go_sem]
 refine z118 162 (fun (k:Nat)=>[(72,.d (.i k))]) (fun k=>[(57,some (.box (byRow kn k)))]) (fun k=>bySt n p to arr k) (fun k=>k≤kn) (fun k=>kn - k) 0 ?_ (Nat.zero_le _) ?_
 ·simp only [go_sem,byRow,bySt]
  refine z32 [] ?_ ?_ ?_ ?_
  ·simp [lessT,z11,AV.less]
  ·simp [lessM,lessB,lessT,z11,AV.less,List.all_replicate]
  ·first | rfl | simp [liveB,AV.refs,AV.refs.AV.refss,List.all_replicate]
  ·first | rfl | simp [liveM,liveB,AV.refs,AV.refs.AV.refss,List.all_replicate]
 ·intro k hk
  have hrl:=z352 kn k hk
  have hr0:=z243 kn k k (Nat.le_refl _)
  simp only [go_sem]
  repeat (first | refine nx ?_ | (refine z3 fun K hK=>?_;simp only [go_sem];apply hK;clear hK K))
  refine z4 rfl (fun hb=>?_) (fun hb=>?_)
  ·have hlt:k<kn:=by simpa using hb
   have hw:IntKind.i64.wrap ((k:Int) + 1)=((k + 1:Nat):Int):=by rw [z9 (by omega)];simp
   have hl1:k + 1<kn + 1:=by omega
   have hl2:k + 1 + 1≤kn + 1:=by omega
   repeat (first | refine nx ?_ | (refine z3 fun K hK=>?_;simp only [go_sem];apply hK;clear hK K))
   have hl3:k + 1≤kn:=hlt
   refine z6 (by kernel_rfl) (by kernel_rfl) fun K hK=>?_
   simp only [go_sem,hrl,hl1,hl2,hl3,hw]
   refine ⟨_,.fnS (hdst:=rfl) (hf:=h47) (hd:=rfl) (hr:=.inl (z44 _)) (hfr:=rfl),?_⟩
   simp only [go_sem,hrl,hl1,hl2,hl3,hw]
   refine ⟨by kernel_rfl,hK _ ?_⟩
   clear hK K
   refine z33 ?_
   have hmv:=z967 kn k hlt
   have htm:∀ h,(bySt n p to arr k).map (Option.map (Blk.mapN h))=bySt n p to arr k:=fun h=>z1123 n p to arr k h
   refine z306 82 (k + 1 + 162) ?_ _ rfl ?_
   ·simp only [go_sem,z17]
   simp only [go_sem,hmv,htm]
   have hr1:=z243 kn (k + 1) (k + 1) (Nat.le_refl _)
   have hr0:=z243 kn (k + 1) k (Nat.le_succ _)
   have hrl:=z352 kn (k + 1) hlt
   have hlk:k<kn + 1:=by omega
   have htl:∀ x y,(bySt n p to arr k++[x]).set (k + 1) y=bySt n p to arr k++[y]:=fun x y=>by
    rw [List.set_append_right _ _ (by rw [z17];omega),z17,Nat.sub_self];rfl
   have htg1:∀ x,(bySt n p to arr k++[x])[k + 1]?=some x:=fun x=>by
    rw [List.getElem?_append_right (by rw [z17];omega),z17,Nat.sub_self];rfl
   have htg0:∀ x,(bySt n p to arr k++[x])[k]?=some (some (.arr 3 1 (intRows (byL n p to arr k)))):=fun x=>by
    rw [List.getElem?_append_left (by rw [z17];omega),z866 n p to arr k k (Nat.le_refl _)]
   refine z70 [75,76,77,78,79,80,81,82,83] ?_ ?_
   ·simp only [go_sem]
    refine z32 [] ?_ ?_ ?_ ?_
    ·simp [lessT,z11,AV.less]
    ·simp [lessM,lessB,lessT,z11,AV.less,z24,z17,z21,List.all_append,List.length_append,z20,z15,z19,z14]
    ·first | rfl | simp [liveB,AV.refs,AV.refs.AV.refss,z24,z17,z21,List.all_append,List.length_append,z20,z15,z19,z14]
    ·first | rfl | simp [liveM,liveB,AV.refs,AV.refs.AV.refss,z24,z17,z21,List.all_append,List.length_append,z20,z15,z19,z14]
   simp only [go_sem]
   repeat (first | refine nx ?_ | (refine z3 fun K hK=>?_;simp only [go_sem];(repeat (first | (refine ⟨_,.lent (hf:=z1134 n p (-1)) (hd:=rfl) (hr:=rfl),?_⟩;simp only [go_sem]) | (refine ⟨_,.given (hf:=z1134 n p (-1)) (hd:=rfl) (ha:=rfl),?_⟩;simp only [go_sem])));apply hK;clear hK K))
   obtain ⟨cur,hcur⟩:∃ cur,cur=byL n p to arr k:=⟨_,rfl⟩
   have hcl:cur.length=m:=by rw [hcur,z1050];exact htn
   rw [← hcur] at htg0
   refine z126 (g:=.tmp 85) rfl (z859 n p (-1) (by have:=ho.net.paths;omega)) (by intro row hr;obtain ⟨w,_,rfl⟩:=List.mem_map.1 hr;rfl) (fun _=>[]) (fun (a:List Int)=>[(k + 1 + 162,some (.arr 3 1 (intRows a)))])
    (fun i a=>a=((waysL n p (-1)).take i).foldl (relaxBy p cur) (List.replicate m (-1))) (fun _ _=>False) (List.replicate m (-1)) ?_ rfl ?_ ?_ (fun _ _ h=>h.elim)
   ·simp only [go_sem,htl]
    refine z32 [] ?_ ?_ ?_ ?_
    ·simp [lessT,z11,AV.less]
    ·simp [lessM,lessB,lessT,z11,AV.less,z24,z17,z21,List.all_append,List.length_append,z20,z15,z19,z14]
    ·first | rfl | simp [liveB,AV.refs,AV.refs.AV.refss,z24,z17,z21,List.all_append,List.length_append,z20,z15,z19,z14]
    ·first | rfl | simp [liveM,liveB,AV.refs,AV.refs.AV.refss,z24,z17,z21,List.all_append,List.length_append,z20,z15,z19,z14]
   ·intro i a row hi ha l2 m2
    simp only [List.getElem?_map,Option.map_eq_some_iff] at hi
    obtain ⟨w,hw1,rfl⟩:=hi
    have hx:=z56 (List.mem_of_getElem? hw1)
    have hmem:=List.mem_of_getElem? hx
    have hn:=ho.net.ok
    have hlen:a.length=m:=by rw [ha,z267];simp
    have hf:=hn.frm w.2 hmem
    have ht:=hn.to w.2 hmem
    have g1:(intRows a)[w.2.frm.toNat]?=some [.i (getI a w.2.frm)]:=z36 hf.1 (by omega)
    have g2:(intRows cur)[w.2.to.toNat]?=some [.i (getI cur w.2.to)]:=z36 ht.1 (by omega)
    have g3:w.2.frm.toNat<(intRows a).length:=by rw [z16];omega
    have g4:w.2.to.toNat<(intRows cur).length:=by rw [z16];omega
    have h49:=zf31 n p w.1 w.2 (getI cur w.2.to) hx (by have:=hn.opens w.2 hmem;omega)
    have hnext:((waysL n p (-1)).take (i + 1)).foldl (relaxBy p cur) (List.replicate m (-1))=relaxBy p cur a w:=by rw [ha];exact z40 _ _ _ _ _ hw1
    simp only [go_sem,wayRow,Path.row,htl]
    repeat (first | refine nx ?_ | (refine z3 fun K hK=>?_;simp only [go_sem];apply hK;clear hK K))
    refine z6 (by kernel_rfl) (by kernel_rfl) fun K hK=>?_
    simp only [go_sem,g1,g2,g3,g4,ht.1,hf.1,hr0,hr1,htg0,htg1,hl1,hlk,hw]
    refine ⟨_,.fn (hf:=h49) (hd:=rfl) (hr:=.inl rfl),?_⟩
    simp only [go_sem,g1,g2,g3,g4,ht.1,hf.1,hr0,hr1,htg0,htg1,hl1,hlk,hw]
    refine ⟨by kernel_rfl,hK _ ?_⟩
    clear hK K
    repeat (first | refine nx ?_ | (refine z3 fun K hK=>?_;simp only [go_sem];apply hK;clear hK K))
    refine ⟨rfl,relaxBy p cur a w,?_,hnext.symm⟩
    rw [relaxBy,← z42]
    simp only [go_sem,htl]
    refine z32 [] ?_ ?_ ?_ ?_
    ·simp [lessT,z11,AV.less]
    ·simp [lessM,lessB,lessT,z11,AV.less,z24,z17,z21,List.all_append,List.length_append,z20,z15,z19,z14]
    ·first | rfl | simp [liveB,AV.refs,AV.refs.AV.refss,z24,z17,z21,List.all_append,List.length_append,z20,z15,z19,z14]
    ·first | rfl | simp [liveM,liveB,AV.refs,AV.refs.AV.refss,z24,z17,z21,List.all_append,List.length_append,z20,z15,z19,z14]
   ·intro a ha
    rw [List.length_map,List.take_length] at ha
    have ha:a=byNext n p cur:=by rw [ha,byNext,htn]
    simp only [go_sem,htl]
    repeat (first | refine nx ?_ | (refine z3 fun K hK=>?_;simp only [go_sem,hw];apply hK;clear hK K))
    refine ⟨rfl,k + 1,?_,hlt,by omega⟩
    rw [z1048,← hcur,← ha]
    refine z32 [] ?_ ?_ ?_ ?_
    ·simp [lessT,z11,AV.less]
    ·simp [lessM,lessB,lessT,z11,AV.less,z24,z17,z21,List.all_append,List.length_append,z20,z15,z19,z14]
    ·first | rfl | simp [liveB,AV.refs,AV.refs.AV.refss,z24,z17,z21,List.all_append,List.length_append,z20,z15,z19,z14]
    ·first | rfl | simp [liveM,liveB,AV.refs,AV.refs.AV.refss,z24,z17,z21,List.all_append,List.length_append,z20,z15,z19,z14]
  ·have he:kn=k:=by (have:¬ k<kn:=by simpa using hb);omega
   subst he
   have hwk:IntKind.i64.wrap ((kn:Int) - 1)=(kn:Int) - 1:=z9 (by omega)
   have hrl:=z352 kn kn (Nat.le_refl _)
   have hrx:=z243 kn kn
   have htx:=z866 n p to arr kn
   repeat (first | refine nx ?_ | (refine z3 fun K hK=>?_;simp only [go_sem,hwk];apply hK;clear hK K))
   refine z18 (fun (a:Int × RSt)=>[(21,.box 21 0)]) (fun a=>[(10,some (.box [.own 155])),(155,some (.arr 3 1 (intRows a.2.1))),(19,some (.box [.d (.i a.2.2.1)])),(20,some (.box [.d (.i a.2.2.2)])),(21,some (.box [.d (.i a.1)]))])
    (fun a=>-1≤a.1∧a.1<kn∧routeD n p to arr kn ([],frm,start)=routeD n p to arr (a.1 + 1).toNat a.2∧a.2.1.length + (a.1 + 1).toNat≤kn) (fun a=>(a.1 + 1).toNat) ((kn:Int) - 1,[],frm,start) ?_
    ⟨by dsimp only;omega,by dsimp only;omega,by dsimp only;congr 1;omega,by dsimp only;simp only [List.length_nil];omega⟩ ?_
   ·simp only [go_sem]
    refine z32 [155] ?_ ?_ ?_ ?_
    ·simp [lessT,z11,AV.less]
    ·simp [lessM,lessB,lessT,z11,AV.less,z209,z24,z17,z21,List.all_append,List.length_append,z20,z15,z19,z14,intRows]
    ·first | rfl | simp [liveB,AV.refs,AV.refs.AV.refss,z209,z24,z17,z21,List.all_append,List.length_append,z20,z15,z19,z14,intRows]
    ·first | rfl | simp [liveM,liveB,AV.refs,AV.refs.AV.refss,z209,z24,z17,z21,List.all_append,List.length_append,z20,z15,z19,z14,intRows]
   ·rintro ⟨t,s⟩ ⟨ht1,ht2,hrd,hsl⟩
    dsimp only at ht1 ht2 hrd hsl
    simp only [go_sem]
    repeat (first | refine nx ?_ | (refine z3 fun K hK=>?_;simp only [go_sem];apply hK;clear hK K))
    refine z4 rfl (fun hb=>?_) (fun hb=>?_)
    ·have hb:t ≥ 0:=by simpa using hb
     obtain ⟨j,rfl⟩:∃ j:Nat,t=j:=⟨t.toNat,by omega⟩
     have hjk:j≤kn:=by omega
     have hjk1:j<kn + 1:=by omega
     have hwj:IntKind.i64.wrap ((j:Int) - 1)=(j:Int) - 1:=z9 (by omega)
     rw [show ((j:Int) + 1).toNat=j + 1 by omega,routeD] at hrd
     rw [show ((j:Int) + 1).toNat=j + 1 by omega] at hsl
     obtain ⟨cur,hcur⟩:∃ cur,cur=byL n p to arr j:=⟨_,rfl⟩
     have hcl:cur.length=m:=by rw [hcur,z1050];exact htn
     have htj:=htx j hjk
     have hrj:=hrx j hjk
     rw [← hcur] at hrd htj
     repeat (first | refine z33 ?_ | refine z52 ?_ | refine z8 ?_ | refine z167 ?_ | refine z85 ?_ | refine z59 ?_ | refine z105 rfl ?_ | refine z95 ?_ | refine z82 ?_ | refine z119 ?_ | refine z87 ?_ | refine z5 ?_)
     refine z26 [] [(155,some (.arr 3 1 (intRows (stepR n p cur s).1))),(19,some (.box [.d (.i (stepR n p cur s).2.1)])),(20,some (.box [.d (.i (stepR n p cur s).2.2)]))] ?_ ?_
     ·refine z49 ?_
      repeat (first | refine nx ?_ | (refine z3 fun K hK=>?_;simp only [go_sem];(repeat (first | (refine ⟨_,.lent (hf:=z1134 n p (-1)) (hd:=rfl) (hr:=rfl),?_⟩;simp only [go_sem]) | (refine ⟨_,.given (hf:=z1134 n p (-1)) (hd:=rfl) (ha:=rfl),?_⟩;simp only [go_sem])));apply hK;clear hK K))
      refine z126 (g:=.tmp 127) rfl (z859 n p (-1) (by have:=ho.net.paths;omega)) (by intro row hr;obtain ⟨w,_,rfl⟩:=List.mem_map.1 hr;rfl) (fun _=>[]) (fun (a:RSt)=>[(155,some (.arr 3 1 (intRows a.1))),(19,some (.box [.d (.i a.2.1)])),(20,some (.box [.d (.i a.2.2)]))])
       (fun i a=>a=s∧((waysL n p (-1)).take i).find? (fitsR p cur s)=none) (fun e a=>e=.exit 6∧a=stepR n p cur s) s ?_ ⟨rfl,rfl⟩ ?_ ?_ ?_
      ·simp only [go_sem]
       refine z32 [] ?_ ?_ ?_ ?_
       ·simp [lessT,z11,AV.less]
       ·simp [lessM,lessB,lessT,z11,AV.less,z24,z17,z21,List.all_append,List.length_append,z20,z15,z19,z14]
       ·first | rfl | simp [liveB,AV.refs,AV.refs.AV.refss,z24,z17,z21,List.all_append,List.length_append,z20,z15,z19,z14]
       ·first | rfl | simp [liveM,liveB,AV.refs,AV.refs.AV.refss,z24,z17,z21,List.all_append,List.length_append,z20,z15,z19,z14]
      ·rintro i a row hi ⟨rfl,hnone⟩ l2 m2
       simp only [List.getElem?_map,Option.map_eq_some_iff] at hi
       obtain ⟨w,hw1,rfl⟩:=hi
       have hx:=z56 (List.mem_of_getElem? hw1)
       have hmem:=List.mem_of_getElem? hx
       have hn:=ho.net.ok
       have ht:=hn.to w.2 hmem
       have g2:(intRows cur)[w.2.to.toNat]?=some [.i (getI cur w.2.to)]:=z36 ht.1 (by omega)
       have g4:w.2.to.toNat<(intRows cur).length:=by rw [z16];omega
       have h51:=z1165 n p w.1 w.2 hx
       have h50:=z1197 n p w.1 w.2 a.2.2 (spanW w.2 p).hi hx (by have:=hn.opens w.2 hmem;omega)
       have hfit:a.1.length + 1≤549755813888:=by omega
       simp only [go_sem,wayRow,Path.row]
       repeat (first | refine nx ?_ | (refine z3 fun K hK=>?_;simp only [go_sem];apply hK;clear hK K))
       refine z4 rfl (fun hc=>?_) (fun hc=>?_)
       ·have hq:fitsR p cur a w=false:=by
         have:¬ w.2.frm=a.2.1:=by simpa using hc
         simp [fitsR,this]
        repeat (first | refine nx ?_ | (refine z3 fun K hK=>?_;simp only [go_sem];apply hK;clear hK K))
        refine ⟨rfl,a,?_,rfl,z203 hw1 hnone hq⟩
        simp only [go_sem]
        refine z32 [] ?_ ?_ ?_ ?_
        ·simp [lessT,z11,AV.less]
        ·simp [lessM,lessB,lessT,z11,AV.less,z24,z17,z21,List.all_append,List.length_append,z20,z15,z19,z14]
        ·first | rfl | simp [liveB,AV.refs,AV.refs.AV.refss,z24,z17,z21,List.all_append,List.length_append,z20,z15,z19,z14]
        ·first | rfl | simp [liveM,liveB,AV.refs,AV.refs.AV.refss,z24,z17,z21,List.all_append,List.length_append,z20,z15,z19,z14]
       ·have hfe:w.2.frm=a.2.1:=by simpa using hc
        repeat (first | refine nx ?_ | (refine z3 fun K hK=>?_;simp only [go_sem];apply hK;clear hK K))
        refine z6 (by kernel_rfl) (by kernel_rfl) fun K hK=>?_
        simp only [go_sem]
        refine ⟨_,.fn (hf:=h51) (hd:=rfl) (hr:=.inl rfl),?_⟩
        simp only [go_sem,Span.row]
        refine ⟨_,.fn (hf:=h50) (hd:=rfl) (hr:=.inl rfl),?_⟩
        simp only [go_sem]
        refine ⟨by kernel_rfl,hK _ ?_⟩
        clear hK K
        repeat (first | refine nx ?_ | (refine z3 fun K hK=>?_;simp only [go_sem];apply hK;clear hK K))
        refine z6 (by kernel_rfl) (by kernel_rfl) fun K hK=>?_
        simp only [go_sem,g2,g4,ht.1,htj,hrj,hjk1]
        refine ⟨by kernel_rfl,hK _ ?_⟩
        clear hK K
        refine z4 rfl (fun hc=>?_) (fun hc=>?_)
        ·have hq:fitsR p cur a w=true:=by
          have:arriveF w.2.opens a.2.2 (spanW w.2 p).hi≤getI cur w.2.to:=by simpa using hc
          simp [fitsR,this,hfe]
         have hst:stepR n p cur a=(a.1++[(w.1:Int)],w.2.to,arriveF w.2.opens a.2.2 (spanW w.2 p).hi):=by rw [stepR,z1157 hw1 hnone hq]
         have hrs:=fun f=>z1049 kn kn 155 f (by omega)
         have hss:=fun f=>z1122 n p to arr kn 155 f
         repeat (first | refine nx ?_ | (refine z3 fun K hK=>?_;simp only [go_sem,z16,hfit,hrs,hss];apply hK;clear hK K))
         refine ⟨rfl,rfl,stepR n p cur a,?_,rfl,rfl⟩
         rw [hst,← z409]
         simp only [go_sem]
         refine z32 [] ?_ ?_ ?_ ?_
         ·simp [lessT,z11,AV.less]
         ·simp [lessM,lessB,lessT,z11,AV.less,z24,z17,z21,List.all_append,List.length_append,z20,z15,z19,z14,intRows]
         ·first | rfl | simp [liveB,AV.refs,AV.refs.AV.refss,z24,z17,z21,List.all_append,List.length_append,z20,z15,z19,z14,intRows]
         ·first | rfl | simp [liveM,liveB,AV.refs,AV.refs.AV.refss,z24,z17,z21,List.all_append,List.length_append,z20,z15,z19,z14,intRows]
        ·have hq:fitsR p cur a w=false:=by
          have:¬ arriveF w.2.opens a.2.2 (spanW w.2 p).hi≤getI cur w.2.to:=by simpa using hc
          simp [fitsR,this]
         repeat (first | refine nx ?_ | (refine z3 fun K hK=>?_;simp only [go_sem];apply hK;clear hK K))
         refine ⟨rfl,a,?_,rfl,z203 hw1 hnone hq⟩
         simp only [go_sem]
         refine z32 [] ?_ ?_ ?_ ?_
         ·simp [lessT,z11,AV.less]
         ·simp [lessM,lessB,lessT,z11,AV.less,z24,z17,z21,List.all_append,List.length_append,z20,z15,z19,z14]
         ·first | rfl | simp [liveB,AV.refs,AV.refs.AV.refss,z24,z17,z21,List.all_append,List.length_append,z20,z15,z19,z14]
         ·first | rfl | simp [liveM,liveB,AV.refs,AV.refs.AV.refss,z24,z17,z21,List.all_append,List.length_append,z20,z15,z19,z14]
      ·rintro a ⟨rfl,hnone⟩
       rw [List.length_map,List.take_length] at hnone
       have hst:stepR n p cur a=a:=by rw [stepR,hnone]
       rw [hst]
       simp only [go_sem]
       repeat (first | refine nx ?_ | (refine z3 fun K hK=>?_;simp only [go_sem];apply hK;clear hK K))
       refine ⟨rfl,?_⟩
       refine z32 [] ?_ ?_ ?_ ?_
       ·simp [lessT,z11,AV.less]
       ·simp [lessM,lessB,lessT,z11,AV.less,z24,z17,z21,List.all_append,List.length_append,z20,z15,z19,z14]
       ·first | rfl | simp [liveB,AV.refs,AV.refs.AV.refss,z24,z17,z21,List.all_append,List.length_append,z20,z15,z19,z14]
       ·first | rfl | simp [liveM,liveB,AV.refs,AV.refs.AV.refss,z24,z17,z21,List.all_append,List.length_append,z20,z15,z19,z14]
      ·rintro e a ⟨rfl,rfl⟩ _
       simp only [go_sem]
       repeat (first | refine nx ?_ | (refine z3 fun K hK=>?_;simp only [go_sem];apply hK;clear hK K))
       refine ⟨rfl,?_⟩
       refine z32 [] ?_ ?_ ?_ ?_
       ·simp [lessT,z11,AV.less]
       ·simp [lessM,lessB,lessT,z11,AV.less,z24,z17,z21,List.all_append,List.length_append,z20,z15,z19,z14]
       ·first | rfl | simp [liveB,AV.refs,AV.refs.AV.refss,z24,z17,z21,List.all_append,List.length_append,z20,z15,z19,z14]
       ·first | rfl | simp [liveM,liveB,AV.refs,AV.refs.AV.refss,z24,z17,z21,List.all_append,List.length_append,z20,z15,z19,z14]
     ·have hlen1:(stepR n p cur s).1.length≤s.1.length + 1:=by
       unfold stepR;split <;> simp
      simp only [go_sem]
      repeat (first | refine nx ?_ | (refine z3 fun K hK=>?_;simp only [go_sem];apply hK;clear hK K))
      refine z70 [21] ?_ ?_
      ·simp only [go_sem]
       refine z32 [] ?_ ?_ ?_ ?_
       ·simp [lessT,z11,AV.less]
       ·simp [lessM,lessB,lessT,z11,AV.less,z24,z17,z21,List.all_append,List.length_append,z20,z15,z19,z14]
       ·first | rfl | simp [liveB,AV.refs,AV.refs.AV.refss,z24,z17,z21,List.all_append,List.length_append,z20,z15,z19,z14]
       ·first | rfl | simp [liveM,liveB,AV.refs,AV.refs.AV.refss,z24,z17,z21,List.all_append,List.length_append,z20,z15,z19,z14]
      simp only [go_sem]
      repeat (first | refine nx ?_ | (refine z3 fun K hK=>?_;simp only [go_sem,hwj];apply hK;clear hK K))
      refine ⟨rfl,((j:Int) - 1,stepR n p cur s),?_,⟨by dsimp only;omega,by dsimp only;omega,by dsimp only;rw [hrd];congr 1;omega,by dsimp only;omega⟩,by dsimp only;omega⟩
      refine z32 [] ?_ ?_ ?_ ?_
      ·simp [lessT,z11,AV.less]
      ·simp [lessM,lessB,lessT,z11,AV.less,z24,z17,z21,List.all_append,List.length_append,z20,z15,z19,z14]
      ·first | rfl | simp [liveB,AV.refs,AV.refs.AV.refss,z24,z17,z21,List.all_append,List.length_append,z20,z15,z19,z14]
      ·first | rfl | simp [liveM,liveB,AV.refs,AV.refs.AV.refss,z24,z17,z21,List.all_append,List.length_append,z20,z15,z19,z14]
    ·have he:t=-1:=by (have:¬ t ≥ 0:=by simpa using hb);omega
     subst he
     have hrd':routeD n p to arr kn ([],frm,start)=s:=hrd
     repeat (first | refine nx ?_ | (refine z3 fun K hK=>?_;simp only [go_sem];apply hK;clear hK K))
     refine z6 (by kernel_rfl) (by kernel_rfl) fun K hK=>?_
     simp only [go_sem]
     refine ⟨by kernel_rfl,hK _ ?_⟩
     clear hK K
     repeat (first | refine nx ?_ | (refine z3 fun K hK=>?_;simp only [go_sem];apply hK;clear hK K))
     simp only [go_sem,hnv,hKe,Int.toNat_natCast,hrd']
end Go.Ab
namespace Go.Ab
open Go.RowKit Go.Proofs
set_option maxHeartbeats 4000000
set_option maxRecDepth 20000
attribute [local irreducible] WalkL Walk
def exN:Net:=⟨4,[⟨0,1,2,⟨100,120⟩,⟨0,0⟩,[⟨0,2880⟩]⟩,⟨1,2,3,⟨60,90⟩,⟨4,10⟩,[⟨0,2880⟩]⟩,⟨2,3,2,⟨60,60⟩,⟨0,0⟩,[⟨400,700⟩]⟩,⟨0,3,2,⟨300,400⟩,⟨0,0⟩,[⟨0,2880⟩]⟩,⟨3,0,2,⟨200,240⟩,⟨0,0⟩,[⟨0,2880⟩]⟩]⟩
def exP:Party:=⟨3,0,⟨100,100⟩⟩
theorem zf49:Fn Try.prog 49 [] (.tup [.agg exN.cells,.agg exP.cells]):=by
 refine z12 26 Try.call49 Try.func49 rfl (by decide) fun J=>?_
 simp only [go_sem,St.start,Try.ntmps49,Try.results49]
 repeat (first | refine nx ?_ | (refine z3 fun K hK=>?_;simp only [go_sem];(repeat (first | (refine ⟨_,.lent (hf:=zf68 _ _) (hd:=rfl) (hr:=rfl),?_⟩;simp only [go_sem]) | (refine ⟨_,.given (hf:=zf68 _ _) (hd:=rfl) (ha:=rfl),?_⟩;simp only [go_sem])));apply hK;clear hK K))
 simp only [go_sem,exN,exP,Net.cells,Party.cells,Path.row,Span.row]
theorem z537:exN.Small:=⟨by decide,by intro x hx;revert hx x;decide⟩
end Go.Ab
namespace Go.Ab
open Go.RowKit Go.Proofs
set_option maxHeartbeats 4000000
set_option maxRecDepth 20000
attribute [local irreducible] WalkL Walk
def farB (n:Net):Bool:=decide ((n.paths.length:Int) > 26) || (n.paths.any (fun x=>decide ((x.opens.length:Int) > 8)) || (!badNet n && (decide (n.places > 6) || decide ((n.paths.length:Int) > 10))))
structure Trip where
 frm:Int
 to:Int
 start:Int
 deadline:Int
 route:List Int
 path:Int
def Trip.row (x:Trip):List DV:=[.i x.frm,.i x.to,.i x.start,.i x.deadline,.sl (intRows x.route),.i x.path]
def fitsB (n:Net) (p:Party) (x:Trip):Bool :=
 !farB n && (checkPartyF n p == 0 && (withinB x.frm 0 (n.places - 1) && (withinB x.to 0 (n.places - 1) && (withinB x.start 0 2880 && withinB x.deadline 0 2880))))
theorem z205 {n:Net} {p:Party}:checkPartyF n p=0↔n.Good∧p.Good:=by
 unfold checkPartyF
 constructor
 ·intro h
  split at h
  ·cases h
  ·rename_i h1
   split at h
   ·cases h
   ·rename_i h2;exact ⟨z155.1 h1,z178.1 h2⟩
 ·rintro ⟨h1,h2⟩
  rw [if_neg (z155.2 h1),if_neg (z178.2 h2)]
end Go.Ab
/- Plain laws of layer 1: paths,arrivals,deadlines. -/
namespace Go.Ab
open Go.RowKit Go.Proofs
set_option maxHeartbeats 1000000
theorem z128 (t b:Int):∀ (l:List Span) (f:Int),l.foldl (fun f s=>if t≤s.hi then min f (max t s.lo) else f) f≤b↔f≤b∨∃ s ∈ l,t≤s.hi∧max t s.lo≤b
 | [],f=>by simp
 | s::l,f=>by
  rw [List.foldl_cons,z128 t b l]
  simp only [List.mem_cons,exists_eq_or_imp]
  split
  ·rename_i h
   constructor
   ·rintro (h1 | h1)
    ·by_cases h2:f≤b
     ·exact .inl h2
     ·exact .inr (.inl ⟨h,by omega⟩)
    ·exact .inr (.inr h1)
   ·rintro (h1 | h1 | h1)
    ·exact .inl (by omega)
    ·exact .inl (by omega)
    ·exact .inr h1
  ·rename_i h
   constructor
   ·rintro (h1 | h1)
    ·exact .inl h1
    ·exact .inr (.inr h1)
   ·rintro (h1 | h1 | h1)
    ·exact .inl h1
    ·omega
    ·exact .inr h1
theorem z230 (c b:Int):∀ (l:List Span) (f:Int),c≤l.foldl (fun last s=>if s.lo≤b then max last (min s.hi b) else last) f↔c≤f∨∃ s ∈ l,s.lo≤b∧c≤min s.hi b
 | [],f=>by simp
 | s::l,f=>by
  rw [List.foldl_cons,z230 c b l]
  simp only [List.mem_cons,exists_eq_or_imp]
  split
  ·rename_i h
   constructor
   ·rintro (h1 | h1)
    ·by_cases h2:c≤f
     ·exact .inl h2
     ·exact .inr (.inl ⟨h,by omega⟩)
    ·exact .inr (.inr h1)
   ·rintro (h1 | h1 | h1)
    ·exact .inl (by omega)
    ·exact .inl (by omega)
    ·exact .inr h1
  ·rename_i h
   constructor
   ·rintro (h1 | h1)
    ·exact .inl h1
    ·exact .inr (.inr h1)
   ·rintro (h1 | h1 | h1)
    ·exact .inl h1
    ·omega
    ·exact .inr h1
theorem z836 (opens:List Span) (t:Int):enterF opens t≤never:=(z128 t never opens _).2 (.inl (by decide))
theorem z538 {opens:List Span} {t:Int} (h:enterF opens t<never):t≤enterF opens t:=by
 have h1:=(z128 t (enterF opens t) opens 1073741824).1 (Int.le_refl _)
 rcases h1 with h1 | ⟨s,_,_,h1⟩
 ·have:(1073741824:Int)=never:=rfl
  omega
 ·omega
theorem z686 {opens:List Span} {t:Int} (h:0≤t):0≤enterF opens t:=by
 by_cases h1:enterF opens t<never
 ·have:=z538 h1;omega
 ·have:(1073741824:Int)=never:=rfl
  omega
def okTime (d:Int):Prop:=1≤d∧d≤6000
theorem z703 {opens:List Span} {t d:Int} (ht:0≤t) (hd:okTime d):arriveF opens t d=if enterF opens t + d > 2880 then never else enterF opens t + d:=by
 have h1:=z686 (opens:=opens) ht
 have h2:=z836 opens t
 have hv:never=1073741824:=rfl
 have hw:wr (enterF opens t + d)=enterF opens t + d:=z9 (by unfold okTime at hd;omega)
 unfold arriveF
 rw [hw]
 rfl
theorem z161 {opens:List Span} {t d b:Int} (ht:0≤t) (hd:okTime d) (hb:b≤2880):arriveF opens t d≤b↔∃ s ∈ opens,t≤s.hi∧max t s.lo≤b - d:=by
 have hv:never=1073741824:=rfl
 unfold okTime at hd
 rw [z703 ht hd]
 have h:=z128 t (b - d) opens 1073741824
 change enterF opens t≤b - d↔_ at h
 constructor
 ·intro h1
  split at h1
  ·omega
  ·rcases h.1 (by omega) with h2 | h2
   ·omega
   ·exact h2
 ·intro h1
  have:=h.2 (.inr h1)
  rw [if_neg (by omega)]
  omega
theorem z444 {opens:List Span} {t d b:Int} (ht:0≤t) (hd:okTime d) (hb:b≤2880) (hb0:-1≤b):t≤latestF opens (wr (b - d))↔arriveF opens t d≤b:=by
 have hw:wr (b - d)=b - d:=z9 (by unfold okTime at hd;omega)
 rw [hw,z161 ht hd hb]
 have h:=z230 t (b - d) opens (-1)
 change t≤latestF opens (b - d)↔_ at h
 rw [h]
 constructor
 ·rintro (h1 | ⟨s,h1,h2,h3⟩)
  ·omega
  ·exact ⟨s,h1,by omega,by omega⟩
 ·rintro ⟨s,h1,h2,h3⟩
  exact .inr ⟨s,h1,by omega,by omega⟩
theorem z34 {opens:List Span} {t d:Int} (ht:0≤t) (hd:okTime d):arriveF opens t d=never∨(t + d≤arriveF opens t d∧arriveF opens t d≤2880):=by
 have hv:never=1073741824:=rfl
 unfold okTime at hd
 rw [z703 ht hd]
 split
 ·exact .inl rfl
 ·have:=z538 (opens:=opens) (t:=t) (by omega)
  exact .inr (by omega)
theorem z160 {opens:List Span} {t t' d:Int} (ht:0≤t) (hle:t≤t') (hd:okTime d):arriveF opens t d≤arriveF opens t' d:=by
 have hv:never=1073741824:=rfl
 rcases z34 (opens:=opens) (t:=t') (by omega) hd with h | ⟨h1,h2⟩
 ·rw [h]
  rcases z34 (opens:=opens) ht hd with h' | h'
  ·omega
  ·omega
 ·obtain ⟨s,q1,q2,q3⟩:=(z161 (b:=arriveF opens t' d) (by omega) hd h2).1 (Int.le_refl _)
  exact (z161 ht hd h2).2 ⟨s,q1,by omega,by omega⟩
theorem z985 {t pace snow load:Int} (ht:1≤t∧t≤600) (hp:50≤pace∧pace≤300) (hs:0≤snow∧snow≤30) (hl:0≤load∧load≤40) :
  timeW t pace snow load=(t * pace * (100 + 5 * snow + load) + 9999) / 10000∧okTime (timeW t pace snow load):=by
 have h1:50≤t * pace:=by have:=Int.mul_le_mul ht.1 hp.1 (by omega) (by omega);omega
 have h2:t * pace≤180000:=by have:=Int.mul_le_mul ht.2 hp.2 (by omega) (by omega);omega
 have h3:100≤100 + 5 * snow + load:=by omega
 have h4:100 + 5 * snow + load≤290:=by omega
 have h5:5000≤t * pace * (100 + 5 * snow + load):=by have:=Int.mul_le_mul h1 h3 (by omega) (by omega);omega
 have h6:t * pace * (100 + 5 * snow + load)≤52200000:=by have:=Int.mul_le_mul h2 h4 (by omega) (by omega);omega
 have e1:wr (t * pace)=t * pace:=z9 (by omega)
 have e2:wr (5 * snow)=5 * snow:=z9 (by omega)
 have e3:wr (100 + 5 * snow)=100 + 5 * snow:=z9 (by omega)
 have e4:wr (100 + 5 * snow + load)=100 + 5 * snow + load:=z9 (by omega)
 have e5:wr (t * pace * (100 + 5 * snow + load))=t * pace * (100 + 5 * snow + load):=z9 (by omega)
 have e6:wr (t * pace * (100 + 5 * snow + load) + 9999)=t * pace * (100 + 5 * snow + load) + 9999:=z9 (by omega)
 have e7:(t * pace * (100 + 5 * snow + load) + 9999).tdiv 10000=(t * pace * (100 + 5 * snow + load) + 9999) / 10000:=Int.tdiv_eq_ediv_of_nonneg (by omega)
 have h:timeW t pace snow load=(t * pace * (100 + 5 * snow + load) + 9999) / 10000:=by
  unfold timeW
  rw [e1,e2,e3,e4,e5,e6,e7]
  exact z9 (by omega)
 refine ⟨h,?_⟩
 rw [h]
 unfold okTime
 omega
theorem z995 {n:Net} {p:Party} {x:Path} (hx:x.Good n) (hp:p.Good):okTime (spanW x p).hi∧okTime (spanW x p).lo∧(spanW x p).lo≤(spanW x p).hi:=by
 obtain ⟨t1,t2,t3⟩:=hx.time
 obtain ⟨s1,s2,s3⟩:=hx.snow
 obtain ⟨p1,p2,p3⟩:=hp.pace
 obtain ⟨a1,a2⟩:=z985 (t:=x.time.hi) (pace:=p.pace.hi) (snow:=x.snow.hi) (load:=p.load) (by omega) (by omega) (by omega) hp.load
 obtain ⟨b1,b2⟩:=z985 (t:=x.time.lo) (pace:=p.pace.lo) (snow:=x.snow.lo) (load:=p.load) (by omega) (by omega) (by omega) hp.load
 have hl:=hp.load
 refine ⟨a2,b2,?_⟩
 show timeW _ _ _ _≤timeW _ _ _ _
 rw [a1,b1]
 have h1:x.time.lo * p.pace.lo≤x.time.hi * p.pace.hi:=Int.mul_le_mul t2 p2 (by omega) (by omega)
 have h2:x.time.lo * p.pace.lo * (100 + 5 * x.snow.lo + p.load)≤x.time.hi * p.pace.hi * (100 + 5 * x.snow.hi + p.load):=by
  refine Int.mul_le_mul h1 (by omega) (by omega) ?_
  exact Int.mul_nonneg (by omega) (by omega)
 omega
theorem z1040 {α W:Type} (r:α × Bool→W→α × Bool) (h1:∀ a w,r a w=a∨(r a w).2=true) (h2:∀ a w,a.2=true→(r a w).2=true) :
  ∀ (ws:List W) (a:α × Bool),(ws.foldl r a).2=false→ws.foldl r a=a∧∀ w ∈ ws,r a w=a:=by
 have keep:∀ (ws:List W) (a:α × Bool),a.2=true→(ws.foldl r a).2=true:=by
  intro ws
  induction ws with
  | nil=>exact fun _ h=>h
  | cons w ws ih=>exact fun a h=>by rw [List.foldl_cons];exact ih _ (h2 a w h)
 intro ws
 induction ws with
 | nil=>exact fun a _=>⟨rfl,by simp⟩
 | cons w ws ih =>
  intro a h
  rw [List.foldl_cons] at h ⊢
  rcases h1 a w with e | e
  ·rw [e] at h ⊢
   obtain ⟨q1,q2⟩:=ih a h
   exact ⟨q1,by intro w' hw';rcases List.mem_cons.1 hw' with rfl | hw';exact e;exact q2 w' hw'⟩
  ·rw [keep ws _ e] at h;cases h
theorem z68 (l:List Int) (k y v:Int) (hk:0≤k) (hkl:k.toNat<l.length) (hy:0≤y):getI (l.set k.toNat v) y=if y=k then v else getI l y:=by
 unfold getI
 rw [List.getD_eq_getElem?_getD,List.getD_eq_getElem?_getD,List.getElem?_set]
 by_cases h:y=k
 ·subst h;simp [hkl]
 ·rw [if_neg (by omega),if_neg h]
inductive Reach (ws:List (Nat × Path)) (dur:Path→Int) (x s:Int):Int→Int→Prop where
 | refl:Reach ws dur x s x s
 | step {y t:Int} (w:Nat × Path):Reach ws dur x s y t→w ∈ ws→w.2.frm=y→arriveF w.2.opens t (dur w.2)≤2880→Reach ws dur x s w.2.to (arriveF w.2.opens t (dur w.2))
def OkWs (n:Net) (dur:Path→Int) (ws:List (Nat × Path)):Prop:=∀ w ∈ ws,(0≤w.2.frm∧w.2.frm<n.places)∧(0≤w.2.to∧w.2.to<n.places)∧okTime (dur w.2)
theorem z117 {n:Net} {p:Party} (hn:n.Good) (hp:p.Good) (but:Int):OkWs n (fun x=>(spanW x p).hi) (waysL n p but)∧OkWs n (fun x=>(spanW x p).lo) (waysL n p but):=by
 constructor <;>
 ·intro w hw
  have hg:=hn.path w.2 (List.mem_of_getElem? (z56 hw))
  have:=z995 hg hp
  exact ⟨hg.frm,hg.to,by first | exact this.1 | exact this.2.1⟩
theorem Reach.range {n:Net} {ws:List (Nat × Path)} {dur:Path→Int} (hw:OkWs n dur ws) {x s y t:Int} (hs:0≤s∧s≤2880) (hx:0≤x∧x<n.places) (h:Reach ws dur x s y t) :
  s≤t∧t≤2880∧0≤y∧y<n.places:=by
 induction h with
 | refl=>omega
 | @step y t w _ hm hf hle ih =>
  obtain ⟨h1,h2,h3⟩:=hw w hm
  have hv:never=1073741824:=rfl
  rcases z34 (opens:=w.2.opens) (t:=t) (d:=dur w.2) (by omega) h3 with h | h
  ·omega
  ·unfold okTime at h3;omega
theorem Reach.mono {n:Net} {ws:List (Nat × Path)} {dur:Path→Int} (hw:OkWs n dur ws) {x s s' y t:Int} (hs:0≤s'∧s'≤s) (h2:s≤2880) (hx:0≤x∧x<n.places) (h:Reach ws dur x s y t):∃ t',t'≤t∧Reach ws dur x s' y t':=by
 induction h with
 | refl=>exact ⟨s',hs.2,.refl⟩
 | @step y t w hr hm hf hle ih =>
  obtain ⟨t',ht',hr'⟩:=ih
  have hrg:=hr'.range hw (by omega) hx
  have:=z160 (opens:=w.2.opens) (t:=t') (t':=t) (d:=dur w.2) (by omega) ht' (hw w hm).2.2
  exact ⟨_,this,.step w hr' hm hf (by omega)⟩
end Go.Ab
/- Plain laws of layer 1: what the passes come to. -/
namespace Go.Ab
open Go.RowKit Go.Proofs
set_option maxHeartbeats 1000000
theorem Reach.trans {ws:List (Nat × Path)} {dur:Path→Int} {x s y t z u:Int} (h:Reach ws dur x s y t) (h':Reach ws dur y t z u):Reach ws dur x s z u:=by
 induction h' with
 | refl=>exact h
 | step w _ hm hf hle ih=>exact .step w ih hm hf hle
theorem Reach.one {ws:List (Nat × Path)} {dur:Path→Int} {t:Int} {w:Nat × Path} (hm:w ∈ ws) (hle:arriveF w.2.opens t (dur w.2)≤2880):Reach ws dur w.2.frm t w.2.to (arriveF w.2.opens t (dur w.2)) :=
 .step w .refl hm rfl hle
theorem z634 (p:Party) (q:Span→Int) (a:List Int × Bool) (w:Nat × Path):relaxA p q a w=a∨(relaxA p q a w).2=true:=by
 unfold relaxA
 split
 ·exact .inl rfl
 ·dsimp only;split
  ·exact .inr rfl
  ·exact .inl rfl
theorem z813 (p:Party) (q:Span→Int) (a:List Int × Bool) (w:Nat × Path) (h:a.2=true):(relaxA p q a w).2=true:=by
 rcases z634 p q a w with e | e
 ·rw [e];exact h
 ·exact e
section
variable {n:Net} {p:Party} {q:Span→Int} {but frm start:Int}
def ArrInv (n:Net) (ws:List (Nat × Path)) (dur:Path→Int) (frm start:Int) (l:List Int):Prop :=
 l.length=n.places.toNat∧getI l frm≤start∧∀ y,0≤y→y<n.places→getI l y=never∨(0≤getI l y∧getI l y≤2880∧Reach ws dur frm start y (getI l y))
theorem z939 {ws:List (Nat × Path)} (hw:OkWs n (fun x=>q (spanW x p)) ws) (hf:0≤frm∧frm<n.places) (a:List Int × Bool) (w:Nat × Path) (hm:w ∈ ws) (h:ArrInv n ws (fun x=>q (spanW x p)) frm start a.1) :
  ArrInv n ws (fun x=>q (spanW x p)) frm start (relaxA p q a w).1:=by
 obtain ⟨w1,w2,w3⟩:=hw w hm
 have w3:okTime (q (spanW w.2 p)):=w3
 obtain ⟨h1,h2,h3⟩:=h
 have hv:never=1073741824:=rfl
 unfold relaxA
 split
 ·exact ⟨h1,h2,h3⟩
 ·rename_i hn
  dsimp only
  split
  ·rename_i hlt
   have hsz:w.2.to.toNat<a.1.length:=by omega
   rcases h3 w.2.frm w1.1 w1.2 with h4 | ⟨h4,h5,h6⟩
   ·exact absurd h4 hn
   have hle:arriveF w.2.opens (getI a.1 w.2.frm) (q (spanW w.2 p))≤2880:=by
    rcases z34 (opens:=w.2.opens) h4 w3 with h | h
    ·rcases h3 w.2.to w2.1 w2.2 with h7 | h7 <;> omega
    ·omega
   have hge:0≤arriveF w.2.opens (getI a.1 w.2.frm) (q (spanW w.2 p)):=by
    rcases z34 (opens:=w.2.opens) h4 w3 with h | h
    ·omega
    ·unfold okTime at w3;omega
   refine ⟨by simpa using h1,?_,fun y hy hyn=>?_⟩
   ·rw [z68 _ _ _ _ w2.1 hsz hf.1]
    split
    ·rename_i e;subst e;omega
    ·exact h2
   ·rw [z68 _ _ _ _ w2.1 hsz hy]
    split
    ·rename_i e;subst e
     exact .inr ⟨hge,hle,.step w h6 hm rfl hle⟩
    ·exact h3 y hy hyn
  ·exact ⟨h1,h2,h3⟩
theorem z678 {ws:List (Nat × Path)} (hw:OkWs n (fun x=>q (spanW x p)) ws) (hf:0≤frm∧frm<n.places):∀ (vs:List (Nat × Path)) (a:List Int × Bool),(∀ w ∈ vs,w ∈ ws)→ArrInv n ws (fun x=>q (spanW x p)) frm start a.1 →
  ArrInv n ws (fun x=>q (spanW x p)) frm start (vs.foldl (relaxA p q) a).1
 | [],_,_,h=>h
 | w::vs,a,hs,h=>by
  rw [List.foldl_cons]
  exact z678 hw hf vs _ (fun w' h'=>hs w' (by simp [h'])) (z939 hw hf a w (hs w (by simp)) h)
theorem z680 (hw:OkWs n (fun x=>q (spanW x p)) (waysL n p but)) (hf:0≤frm∧frm<n.places):∀ (k:Nat) (l:List Int),fallM l<k→ArrInv n (waysL n p but) (fun x=>q (spanW x p)) frm start l →
  ArrInv n (waysL n p but) (fun x=>q (spanW x p)) frm start (fixA n p q but k l)∧∀ w ∈ waysL n p but,relaxA p q (fixA n p q but k l,false) w=(fixA n p q but k l,false)
 | 0,l,h,_=>by omega
 | k + 1,l,h,hi=>by
  have hM:=z831 p q (waysL n p but) (l,false) (fun w hm=>by have:=(hw w hm).2.1;have:=hi.1;show w.2.to.toNat<l.length;omega)
  unfold fixA
  split
  ·rename_i hc
   have hlt:=hM.2 rfl hc
   refine z680 hw hf k _ (by show fallM (passA n p q but l).1<k;unfold passA;dsimp only at hlt;omega) ?_
   exact z678 hw hf _ (l,false) (fun _ h=>h) hi
  ·rename_i hc
   obtain ⟨e1,e2⟩:=z1040 (relaxA p q) (z634 p q) (z813 p q) (waysL n p but) (l,false) (by simpa [passA] using hc)
   have e3:(passA n p q but l).1=l:=by unfold passA;rw [e1]
   rw [e3]
   exact ⟨hi,e2⟩
theorem z541 (hw:OkWs n (fun x=>q (spanW x p)) (waysL n p but)) (hf:0≤frm∧frm<n.places) (hs:0≤start∧start≤2880) :
  (∀ y,0≤y→y<n.places→getI (arrivalsL n p q frm start but) y=never∨(0≤getI (arrivalsL n p q frm start but) y∧getI (arrivalsL n p q frm start but) y≤2880∧Reach (waysL n p but) (fun x=>q (spanW x p)) frm start y (getI (arrivalsL n p q frm start but) y))) ∧
  ∀ y t,Reach (waysL n p but) (fun x=>q (spanW x p)) frm start y t→getI (arrivalsL n p q frm start but) y≤t:=by
 have hv:never=1073741824:=rfl
 have h0:ArrInv n (waysL n p but) (fun x=>q (spanW x p)) frm start (arrivals0 n frm start):=by
  have hl:frm.toNat<(List.replicate n.places.toNat never).length:=by simp;omega
  refine ⟨by simp [arrivals0],?_,fun y hy hyn=>?_⟩
  ·unfold arrivals0;rw [z68 _ _ _ _ hf.1 hl hf.1,if_pos rfl];exact Int.le_refl _
  ·unfold arrivals0
   rw [z68 _ _ _ _ hf.1 hl hy]
   split
   ·rename_i e;subst e;exact .inr ⟨hs.1,hs.2,.refl⟩
   ·left;unfold getI;rw [List.getD_eq_getElem?_getD,List.getElem?_replicate,if_pos (by omega)];rfl
 obtain ⟨⟨h1,h2,h3⟩,h4⟩:=z680 hw hf (fallM (arrivals0 n frm start) + 1) (arrivals0 n frm start) (Nat.lt_succ_self _) h0
 change ((arrivalsL n p q frm start but).length=_) at h1
 refine ⟨h3,fun y t hr=>?_⟩
 have key:∀ y t,Reach (waysL n p but) (fun x=>q (spanW x p)) frm start y t→getI (arrivalsL n p q frm start but) y≤t∧t≤2880∧0≤t:=by
  intro y t hr
  induction hr with
  | refl=>exact ⟨h2,hs.2,hs.1⟩
  | @step y t w hr hm hfe hle ih =>
   obtain ⟨w1,w2,w3⟩:=hw w hm
   have w3:okTime (q (spanW w.2 p)):=w3
   obtain ⟨i1,i2,i3⟩:=ih
   have hge:0≤arriveF w.2.opens t (q (spanW w.2 p)):=by
    rcases z34 (opens:=w.2.opens) i3 w3 with h | h
    ·omega
    ·unfold okTime at w3;omega
   refine ⟨?_,hle,hge⟩
   have h5:=h4 w hm
   change relaxA p q (arrivalsL n p q frm start but,false) w=(arrivalsL n p q frm start but,false) at h5
   unfold relaxA at h5
   rw [hfe] at h5
   split at h5
   ·rename_i h6;dsimp only at h6;omega
   ·dsimp only at h5
    split at h5
    ·exact absurd (congrArg Prod.snd h5) (by simp)
    ·rename_i h6
     have h7:0≤getI (arrivalsL n p q frm start but) y:=by
      rcases h3 y (by omega) (by omega) with h | h
      ·have h8:getI (arrivalsL n p q frm start but) y=never:=h
       omega
      ·exact h.1
     have h8:=z160 (opens:=w.2.opens) h7 i1 w3
     show getI (arrivalsL n p q frm start but) w.2.to≤arriveF w.2.opens t (q (spanW w.2 p))
     omega
 exact (key y t hr).1
end
section
variable {n:Net} {p:Party} {to b:Int}
abbrev durHi (p:Party):Path→Int:=fun x=>(spanW x p).hi
abbrev durLo (p:Party):Path→Int:=fun x=>(spanW x p).lo
def DeadInv (n:Net) (p:Party) (to b:Int) (l:List Int):Prop :=
 l.length=n.places.toNat∧b≤getI l to∧∀ x,0≤x→x<n.places→-1≤getI l x∧getI l x≤2880∧(0≤getI l x→∃ t,t≤b∧Reach (waysL n p (-1)) (durHi p) x (getI l x) to t)
end
end Go.Ab
namespace Go.Ab
open Go.RowKit Go.Proofs
set_option maxHeartbeats 4000000
set_option maxRecDepth 20000
attribute [local irreducible] WalkL Walk
structure Fits (n:Net) (p:Party) (x:Trip):Prop where
 net:n.Good
 party:p.Good
 few:n.places≤6∧n.paths.length≤10
 frm:0≤x.frm∧x.frm<n.places
 to:0≤x.to∧x.to<n.places
 start:0≤x.start∧x.start≤2880
 deadline:0≤x.deadline∧x.deadline≤2880
end Go.Ab
namespace Go.Ab
open Go.RowKit Go.Proofs
set_option maxHeartbeats 4000000
set_option maxRecDepth 20000
attribute [local irreducible] WalkL Walk
end Go.Ab
namespace Go.Ab
open Go.RowKit Go.Proofs
set_option maxHeartbeats 4000000
set_option maxRecDepth 20000
attribute [local irreducible] WalkL Walk
def onB (n:Net) (p:Party) (f i:Int):Option Int :=
 if withinB i 0 (n.paths.length - 1) then match n.paths[i.toNat]? with
  | some x=>if x.grade≤p.grade∧x.frm=f then some x.to else none
  | none=>none
 else none
def walkR (n:Net) (p:Party) (f:Int) (l:List Int):Option Int:=l.foldl (fun s i=>s.bind fun g=>onB n p g i) (some f)
def isRouteB (n:Net) (p:Party) (f:Int) (l:List Int):Bool:=(walkR n p f l).isSome && decide ((l.length:Int)≤30)
theorem z418 (n:Net) (p:Party):∀ l:List Int,l.foldl (fun s i=>s.bind fun g=>onB n p g i) none=none
 | []=>rfl
 | _::l=>z418 n p l
theorem z882 {n:Net} {p:Party} {f g:Int} {l:List Int} {i:Nat} {v:Int} (h:l[i]?=some v) (h0:walkR n p f (l.take i)=some g):walkR n p f (l.take (i + 1))=onB n p g v:=by
 unfold walkR at h0 ⊢
 rw [List.take_add_one,h,List.foldl_append,h0];rfl
theorem z417 {n:Net} {p:Party} {f:Int} {l:List Int} {i:Nat} (h0:walkR n p f (l.take i)=none):walkR n p f l=none:=by
 have h:walkR n p f (l.take i++l.drop i)=none:=by
  unfold walkR at h0 ⊢
  rw [List.foldl_append,h0]
  exact z418 n p _
 rwa [List.take_append_drop] at h
theorem zf10 (n:Net) (p:Party) (l:List Int) (frm:Int) (hn:n.paths.length<2 ^ 30) (hs:l.length<2 ^ 30):Fn Try.prog 10 [.agg n.cells,.agg p.cells,.sl (intRows l),.i frm] (.bool (isRouteB n p frm l)):=by
 have h33:=fun y=>zf34 n y (by omega)
 refine z12 58 Try.call10 Try.func10 rfl (by decide) fun J=>?_
 simp only [go_sem,St.start,Try.ntmps10,Try.results10,Net.cells,Party.cells]
 repeat (first | refine nx ?_ | (refine z3 fun K hK=>?_;simp only [go_sem];apply hK;clear hK K))
 refine z18 (fun (a:Nat × Int)=>[(9,.d (.i a.1)),(3,.d (.i a.2))]) (fun _=>[]) (fun a=>a.1≤l.length∧walkR n p frm (l.take a.1)=some a.2) (fun a=>l.length - a.1) (0,frm) ?_ ⟨Nat.zero_le _,rfl⟩ ?_
 ·simp only [go_sem]
  refine weA ?_ ?_ <;> simp
 ·intro ⟨i,f⟩ ⟨hi,hall⟩
  dsimp only at hi hall
  simp only [go_sem]
  repeat (first | refine nx ?_ | (refine z3 fun K hK=>?_;simp only [go_sem,z16];apply hK;clear hK K))
  refine z4 rfl (fun hb=>?_) (fun hb=>?_)
  ·have hlt:i<l.length:=by simpa using hb
   have hw:IntKind.i64.wrap ((i:Int) + 1)=((i + 1:Nat):Int):=by rw [z9 (by omega)];simp
   obtain ⟨v,hv⟩:∃ v,l[i]?=some v:=⟨_,List.getElem?_eq_getElem hlt⟩
   have g1:=z137 hv
   have hsu:=z882 hv hall
   by_cases hin:withinB v 0 (n.paths.length - 1)=true
   ·obtain ⟨hv0,hv1⟩:=z27.1 hin
    obtain ⟨j,rfl⟩:∃ j:Nat,v=(j:Int):=⟨v.toNat,by omega⟩
    obtain ⟨x,hx⟩:∃ x,n.paths[j]?=some x:=⟨_,List.getElem?_eq_getElem (by omega)⟩
    have h61:=zf35 n p j x hx
    have hon:onB n p f j=if x.grade≤p.grade∧x.frm=f then some x.to else none:=by simp [onB,hin,hx]
    repeat (first | refine nx ?_ | (refine z3 fun K hK=>?_;simp only [go_sem];apply hK;clear hK K))
    refine z26 [(45,.d (.bool (!withinB (j:Int) 0 (n.paths.length - 1) || (!decide (x.grade≤p.grade) || x.frm != f))))] [] ?_ ?_
    ·refine z6 (by kernel_rfl) (by kernel_rfl) fun K hK=>?_
     simp only [go_sem,g1,hx,List.getElem?_map,Path.row]
     refine ⟨_,.fn (hf:=h33 j) (hd:=rfl) (hr:=.inl rfl),?_⟩
     simp only [go_sem,g1,hx,List.getElem?_map,Path.row]
     by_cases ho0:(!withinB (j:Int) 0 (n.paths.length - 1))=true
     ·simp only [go_sem,g1,hx,List.getElem?_map,Path.row,ho0]
      refine ⟨by kernel_rfl,hK _ ?_⟩
      clear hK K
      refine z8 ?_
      refine z5 ?_
      refine ⟨rfl,?_⟩
      rw [show (!withinB (j:Int) 0 (n.paths.length - 1) || (!decide (x.grade≤p.grade) || x.frm != f))=(true) from by simp [ho0]]
      simp only [go_sem]
      refine weA ?_ ?_ <;> simp
     ·simp only [go_sem,g1,hx,List.getElem?_map,Path.row,ho0]
      refine ⟨_,.fn (hf:=h61) (hd:=rfl) (hr:=.inl rfl),?_⟩
      simp only [go_sem,g1,hx,List.getElem?_map,Path.row,ho0]
      by_cases ho1:(!decide (x.grade≤p.grade))=true
      ·simp only [go_sem,g1,hx,List.getElem?_map,Path.row,ho0,ho1]
       refine ⟨by kernel_rfl,hK _ ?_⟩
       clear hK K
       refine z8 ?_
       refine z5 ?_
       refine ⟨rfl,?_⟩
       rw [show (!withinB (j:Int) 0 (n.paths.length - 1) || (!decide (x.grade≤p.grade) || x.frm != f))=(true) from by simp [ho0,ho1]]
       simp only [go_sem]
       refine weA ?_ ?_ <;> simp
      ·simp only [go_sem,g1,hx,List.getElem?_map,Path.row,ho0,ho1]
       refine ⟨by kernel_rfl,hK _ ?_⟩
       clear hK K
       refine z8 ?_
       refine z5 ?_
       refine ⟨rfl,?_⟩
       rw [show (!withinB (j:Int) 0 (n.paths.length - 1) || (!decide (x.grade≤p.grade) || x.frm != f))=(x.frm != f) from by simp [ho0,ho1]]
       simp only [go_sem]
       refine weA ?_ ?_ <;> simp
    simp only [go_sem]
    refine z4 rfl (fun hc=>?_) (fun hc=>?_)
    ·have hno:walkR n p frm l=none:=by
      refine z417 (i:=i + 1) ?_
      rw [hsu,hon,if_neg]
      rintro ⟨h1,h2⟩
      simp [hin,h1,h2] at hc
     have hf:isRouteB n p frm l=false:=by simp [isRouteB,hno]
     repeat (first | refine nx ?_ | (refine z3 fun K hK=>?_;simp only [go_sem];apply hK;clear hK K))
     simp only [go_sem,hf]
    ·have hyes:x.grade≤p.grade∧x.frm=f:=by simpa [hin] using hc
     rw [hon,if_pos hyes] at hsu
     repeat (first | refine nx ?_ | (refine z3 fun K hK=>?_;simp only [go_sem];apply hK;clear hK K))
     refine z6 (by kernel_rfl) (by kernel_rfl) fun K hK=>?_
     simp only [go_sem,g1,hx,List.getElem?_map,Path.row]
     refine ⟨by kernel_rfl,hK _ ?_⟩
     clear hK K
     repeat (first | refine nx ?_ | (refine z3 fun K hK=>?_;simp only [go_sem,hw];apply hK;clear hK K))
     refine ⟨rfl,(i + 1,x.to),?_,⟨hlt,hsu⟩,by dsimp only;omega⟩
     refine weA ?_ ?_ <;> simp
   ·have hin':withinB v 0 (n.paths.length - 1)=false:=by simpa using hin
    have hno:walkR n p frm l=none:=by
     refine z417 (i:=i + 1) ?_
     rw [hsu,onB,if_neg hin]
    repeat (first | refine nx ?_ | (refine z3 fun K hK=>?_;simp only [go_sem];apply hK;clear hK K))
    refine z6 (by kernel_rfl) (by kernel_rfl) fun K hK=>?_
    simp only [go_sem,g1,hin']
    refine ⟨_,.fn (hf:=h33 v) (hd:=rfl) (hr:=.inl rfl),?_⟩
    simp only [go_sem,hin']
    refine ⟨by kernel_rfl,hK _ ?_⟩
    clear hK K
    have hf:isRouteB n p frm l=false:=by simp [isRouteB,hno]
    refine z10 rfl ?_
    repeat (first | refine nx ?_ | (refine z3 fun K hK=>?_;simp only [go_sem];apply hK;clear hK K))
    simp only [go_sem,hf]
  ·have he:i=l.length:=by (have:¬ i<l.length:=by simpa using hb);omega
   subst he
   rw [List.take_length] at hall
   have hf:isRouteB n p frm l=decide ((l.length:Int)≤30):=by simp [isRouteB,hall]
   repeat (first | refine nx ?_ | (refine z3 fun K hK=>?_;simp only [go_sem];apply hK;clear hK K))
   simp only [go_sem,hf,z16]
end Go.Ab
namespace Go.Ab
open Go.RowKit Go.Proofs
set_option maxHeartbeats 4000000
set_option maxRecDepth 20000
attribute [local irreducible] WalkL Walk
def noPath:Path:=⟨0,0,0,⟨0,0⟩,⟨0,0⟩,[]⟩
def pathAt (n:Net) (v:Int):Path:=n.paths.getD v.toNat noPath
def roundW (n:Net) (p:Party) (waits times:List Int) (i:Nat) (v at0:Int):Option Int :=
 let e:=enterF (pathAt n v).opens (if i<waits.length then wr (at0 + getI waits i) else at0)
 if e ≥ 1073741824 then none else some (wr (e + if i<times.length then getI times i else (spanW (pathAt n v) p).hi))
def walkedAt (n:Net) (p:Party) (route waits times:List Int) (start:Int):Nat→Option Int
 | 0=>some start
 | i + 1=>(walkedAt n p route waits times start i).bind (roundW n p waits times i (getI route i))
def walkedF (n:Net) (p:Party) (route:List Int) (start:Int) (waits times:List Int):Int:=(walkedAt n p route waits times start route.length).getD 1073741824
def onNet (n:Net) (v:Int):Prop:=0≤v∧v<n.paths.length
end Go.Ab
namespace Go.Ab
open Go.RowKit Go.Proofs
set_option maxHeartbeats 4000000
set_option maxRecDepth 20000
attribute [local irreducible] WalkL Walk
end Go.Ab
namespace Go.Ab
open Go.RowKit Go.Proofs
set_option maxHeartbeats 4000000
set_option maxRecDepth 20000
attribute [local irreducible] WalkL Walk
def turnF (n:Net) (p:Party) (by1:List Int):List Int→Int→Nat→Int
 | [],_,k=>k
 | v::r,t,k=>if arriveF (pathAt n v).opens t (spanW (pathAt n v) p).hi > getI by1 (pathAt n v).to then k else turnF n p by1 r (arriveF (pathAt n v).opens t (spanW (pathAt n v) p).hi) (k + 1)
def turnL (n:Net) (p:Party) (route:List Int) (frm start home deadline:Int):Int × Int :=
 if openF n p [frm,home] [start,deadline]=0 then
  if isRouteB n p frm route then
   if start > getI (deadlinesL n p home deadline) frm then (-1,0) else (turnF n p (deadlinesL n p home deadline) route start 0,0)
  else (0,12)
 else (0,openF n p [frm,home] [start,deadline])
end Go.Ab
namespace Go.Ab
open Go.RowKit Go.Proofs
def goOn (n:Net) (p:Party) (s:Int × Int) (v:Int):Int × Int:=((pathAt n v).to,arriveF (pathAt n v).opens s.2 (spanW (pathAt n v) p).hi)
def posR (n:Net) (p:Party) (s:Int × Int) (l:List Int) (i:Nat):Int × Int:=(l.take i).foldl (goOn n p) s
end Go.Ab
namespace Go.Ab
open Go.RowKit Go.Proofs
set_option maxHeartbeats 4000000
set_option maxRecDepth 20000
attribute [local irreducible] WalkL Walk
end Go.Ab
namespace Go.Ab
open Go.RowKit Go.Proofs
set_option maxHeartbeats 4000000
set_option maxRecDepth 20000
attribute [local irreducible] WalkL Walk
end Go.Ab
/- Plain law of layer 1: the document's table is the program's arrivals. -/
namespace Go.Ab
open Go.RowKit Go.Proofs
set_option maxHeartbeats 1000000
theorem z303 (p:Party) (but:Int):∀ (l:List Path) (i j:Nat) (x:Path),l[j]?=some x→((i + j:Nat):Int)≠but→x.grade≤p.grade→(i + j,x) ∈ waysFrom p but l i
 | [],i,j,x,h,_,_=>by simp at h
 | y::l,i,0,x,h,h1,h2=>by
  simp at h;subst h
  unfold waysFrom
  rw [if_pos ⟨by simpa using h1,h2⟩]
  simp
 | y::l,i,j + 1,x,h,h1,h2=>by
  have:=z303 p but l (i + 1) j x (by simpa using h) (by rw [show i + 1 + j=i + (j + 1) by omega];exact h1) h2
  rw [show i + 1 + j=i + (j + 1) by omega] at this
  unfold waysFrom
  split
  ·exact List.mem_cons_of_mem _ this
  ·exact this
theorem z549 {n:Net} {p:Party} {but:Int} {w:Nat × Path}:w ∈ waysL n p but↔n.paths[w.1]?=some w.2∧w.2.grade≤p.grade∧(w.1:Int)≠but:=by
 constructor
 ·intro h
  obtain ⟨_,h2,h3,h4⟩:=z99 p but n.paths 0 w h
  exact ⟨by simpa using h2,h3,h4⟩
 ·rintro ⟨h1,h2,h3⟩
  have:=z303 p but n.paths 0 w.1 w.2 h1 (by simpa using h3) h2
  simpa [waysL] using this
def endOf (high:Bool) (s:Span):Int:=if high then s.hi else s.lo
section
variable {n:Net} {p:Party} {high:Bool} {but frm start:Int}
def TabInv (n:Net) (p:Party) (high:Bool) (but frm start:Int) (l:List Int):Prop :=
 l.length=n.places.toNat∧∀ y,0≤y→y<n.places→getI l y=never∨(0≤getI l y∧getI l y≤2880∧Reach (waysL n p but) (fun x=>endOf high (spanW x p)) frm start y (getI l y))
def lower (m:Nat) (d:Int→Int) (y:Int):Nat:=((List.range m).filter fun (i:Nat)=>decide (d i<d y)).length
theorem z857 {m:Nat} {d:Int→Int} {z y:Int} (h:d z<d y) (hz:0≤z∧z<m):lower m d z<lower m d y:=by
 unfold lower
 have hsub:(List.range m).filter (fun (i:Nat)=>decide (d i<d z))=((List.range m).filter (fun (i:Nat)=>decide (d i<d y))).filter (fun (i:Nat)=>decide (d i<d z)):=by
  rw [List.filter_filter]
  refine List.filter_congr fun i _=>?_
  by_cases h1:d i<d z
  ·simp [h1,Int.lt_trans h1 h]
  ·simp [h1]
 rw [hsub]
 refine List.length_filter_lt_length_iff_exists.2 ⟨z.toNat,?_,?_⟩
 ·simp only [List.mem_filter,List.mem_range,decide_eq_true_eq]
  refine ⟨by omega,?_⟩
  rw [show ((z.toNat:Nat):Int)=z by omega];exact h
 ·rw [show ((z.toNat:Nat):Int)=z by omega];simp
theorem z1100 {m:Nat} {d:Int→Int} {y:Int} (hy:0≤y∧y<m):lower m d y<m:=by
 have:lower m d y<(List.range m).length:=by
  unfold lower
  refine List.length_filter_lt_length_iff_exists.2 ⟨y.toNat,by simp;omega,?_⟩
  rw [show ((y.toNat:Nat):Int)=y by omega];simp
 simpa using this
end
end Go.Ab
namespace Go.Ab
open Go.RowKit Go.Proofs
set_option maxHeartbeats 4000000
set_option maxRecDepth 20000
attribute [local irreducible] WalkL Walk
end Go.Ab
/- Plain laws of layer 1: what the document returns is what the program returns. -/
namespace Go.Ab
open Go.RowKit Go.Proofs
set_option maxHeartbeats 1000000
section
variable {n:Net} {p:Party} {frm start to deadline:Int}
end
end Go.Ab
namespace Go.Ab
open Go.RowKit Go.Proofs
set_option maxHeartbeats 4000000
set_option maxRecDepth 20000
attribute [local irreducible] WalkL Walk
def checkTurnF (n:Net) (p:Party) (route:List Int) (frm start home deadline:Int):Int :=
 if openF n p [frm,home] [start,deadline]=0 then (if isRouteB n p frm route=true then 0 else 12) else openF n p [frm,home] [start,deadline]
end Go.Ab
/- Plain laws of layer 1: the route that is returned. -/
namespace Go.Ab
open Go.RowKit Go.Proofs
set_option maxHeartbeats 1000000
inductive Trail (n:Net) (p:Party):Int→Int→List Int→Int→Int→Prop where
 | nil (y t:Int):Trail n p y t [] y t
 | cons {y t z u:Int} {r:List Int} (w:Nat × Path) (hm:w ∈ waysL n p (-1)) (hf:w.2.frm=y) (hle:arriveF w.2.opens t (spanW w.2 p).hi≤2880)
   (h:Trail n p w.2.to (arriveF w.2.opens t (spanW w.2 p).hi) r z u):Trail n p y t ((w.1:Int)::r) z u
inductive ReachN (n:Net) (p:Party) (x s:Int):Nat→Int→Int→Prop where
 | refl:ReachN n p x s 0 x s
 | step {k:Nat} {y t:Int} (w:Nat × Path):ReachN n p x s k y t→w ∈ waysL n p (-1)→w.2.frm=y→arriveF w.2.opens t (spanW w.2 p).hi≤2880→ReachN n p x s (k + 1) w.2.to (arriveF w.2.opens t (spanW w.2 p).hi)
theorem ReachN.reach {n:Net} {p:Party} {x s:Int} {k:Nat} {y t:Int} (h:ReachN n p x s k y t):Reach (waysL n p (-1)) (durHi p) x s y t:=by
 induction h with
 | refl=>exact .refl
 | step w _ hm hf hle ih=>exact .step w ih hm hf hle
theorem Trail.reach {n:Net} {p:Party} {y t z u:Int} {r:List Int} (h:Trail n p y t r z u):Reach (waysL n p (-1)) (durHi p) y t z u:=by
 induction h with
 | nil=>exact .refl
 | cons w hm hf hle _ ih =>
  subst hf
  exact Reach.trans (Reach.one (dur:=durHi p) hm hle) ih
section
variable {n:Net} {p:Party} {frm start:Int}
def NowInv (n:Net) (p:Party) (frm start:Int) (k:Nat) (l:List Int):Prop :=
 l.length=n.places.toNat∧∀ y,0≤y→y<n.places→getI l y=never∨(0≤getI l y∧getI l y≤2880∧ReachN n p frm start k y (getI l y))
theorem z454 (hn:n.Good) (hp:p.Good) {k:Nat} {now:List Int} (hN:NowInv n p frm start k now):∀ (ws:List (Nat × Path)) (l:List Int),(∀ w ∈ ws,w ∈ waysL n p (-1))→NowInv n p frm start (k + 1) l →
  NowInv n p frm start (k + 1) (ws.foldl (relaxS p now) l)∧(∀ y,0≤y→y<n.places→getI (ws.foldl (relaxS p now) l) y≤getI l y) ∧
  ∀ w ∈ ws,getI now w.2.frm≠never→getI (ws.foldl (relaxS p now) l) w.2.to≤arriveF w.2.opens (getI now w.2.frm) (spanW w.2 p).hi:=by
 intro ws
 induction ws with
 | nil=>exact fun l _ h=>⟨h,fun y _ _=>Int.le_refl _,fun w hw=>by cases hw⟩
 | cons v ws ih =>
  intro l hs h
  rw [List.foldl_cons]
  have hv:never=1073741824:=rfl
  have hok:=(z117 hn hp (-1)).1
  obtain ⟨v1,v2,v3⟩:=hok v (hs v (by simp))
  have v3:okTime (spanW v.2 p).hi:=v3
  have hsz:v.2.to.toNat<l.length:=by have:=h.1;omega
  have one:NowInv n p frm start (k + 1) (relaxS p now l v)∧(∀ y,0≤y→y<n.places→getI (relaxS p now l v) y≤getI l y)∧(getI now v.2.frm≠never→getI (relaxS p now l v) v.2.to≤arriveF v.2.opens (getI now v.2.frm) (spanW v.2 p).hi):=by
   unfold relaxS
   split
   ·rename_i e;exact ⟨h,fun y _ _=>Int.le_refl _,fun hc=>absurd e hc⟩
   ·rename_i hne
    rcases hN.2 v.2.frm v1.1 v1.2 with h4 | ⟨h4,h5,h6⟩
    ·exact absurd h4 hne
    refine ⟨⟨by simpa using h.1,fun y hy hyn=>?_⟩,fun y hy hyn=>?_,fun _=>?_⟩
    ·rw [z68 _ _ _ _ v2.1 hsz hy]
     split
     ·rename_i e;subst e
      by_cases hlt:getI l v.2.to≤arriveF v.2.opens (getI now v.2.frm) (spanW v.2 p).hi
      ·rw [Int.min_eq_left hlt];exact h.2 _ v2.1 v2.2
      ·rw [Int.min_eq_right (by omega)]
       rcases z34 (opens:=v.2.opens) h4 v3 with ha | ⟨ha,ha'⟩
       ·exact .inl ha
       ·unfold okTime at v3
        exact .inr ⟨by omega,ha',.step v h6 (hs v (by simp)) rfl ha'⟩
     ·exact h.2 y hy hyn
    ·rw [z68 _ _ _ _ v2.1 hsz hy]
     split
     ·rename_i e;subst e;omega
     ·exact Int.le_refl _
    ·rw [z68 _ _ _ _ v2.1 hsz v2.1,if_pos rfl];omega
  obtain ⟨o1,o2,o3⟩:=one
  obtain ⟨i1,i2,i3⟩:=ih _ (fun w hw=>hs w (by simp [hw])) o1
  refine ⟨i1,fun y hy hyn=>Int.le_trans (i2 y hy hyn) (o2 y hy hyn),fun w hw hne=>?_⟩
  rcases List.mem_cons.1 hw with rfl | hw
  ·exact Int.le_trans (i2 _ v2.1 v2.2) (o3 hne)
  ·exact i3 w hw hne
theorem z328 {m:Nat} {y:Int} (hy:0≤y) (hm:y<m):getI (List.replicate m never) y=never:=by
 unfold getI;rw [List.getD_eq_getElem?_getD,List.getElem?_replicate,if_pos (by omega)];rfl
theorem z140 {m:Nat} {y:Int} (hy:0≤y) (hm:y<m):getI (List.replicate m (-1:Int)) y=-1:=by
 unfold getI;rw [List.getD_eq_getElem?_getD,List.getElem?_replicate,if_pos (by omega)];rfl
theorem z225 (hn:n.Good) (hp:p.Good) (hf:0≤frm∧frm<n.places) (hs:0≤start∧start≤2880):∀ k,NowInv n p frm start k (nowS n p frm start k)
 | 0=>by
  have hl:frm.toNat<(List.replicate n.places.toNat never).length:=by simp;omega
  show NowInv n p frm start 0 (arrivals0 n frm start)
  refine ⟨by simp [arrivals0],fun y hy hyn=>?_⟩
  unfold arrivals0
  rw [z68 _ _ _ _ hf.1 hl hy]
  split
  ·rename_i e;subst e;exact .inr ⟨hs.1,hs.2,.refl⟩
  ·left;exact z328 hy (by omega)
 | k + 1=>(z454 hn hp (z225 hn hp hf hs k) (waysL n p (-1)) _ (fun _ h=>h) ⟨by simp,fun y hy hyn=>.inl (z328 hy (by omega))⟩).1
theorem z1017 (hn:n.Good) (hp:p.Good) (hf:0≤frm∧frm<n.places) (hs:0≤start∧start≤2880) (k:Nat) {w:Nat × Path} (hw:w ∈ waysL n p (-1)) (hne:getI (nowS n p frm start k) w.2.frm≠never) :
  getI (nowS n p frm start (k + 1)) w.2.to≤arriveF w.2.opens (getI (nowS n p frm start k) w.2.frm) (spanW w.2 p).hi :=
 (z454 hn hp (z225 hn hp hf hs k) (waysL n p (-1)) _ (fun _ h=>h) ⟨by simp,fun y hy hyn=>.inl (z328 hy (by omega))⟩).2.2 w hw hne
theorem z436 (hn:n.Good) (hp:p.Good) (hf:0≤frm∧frm<n.places) (hs:0≤start∧start≤2880) {k:Nat} {y t:Int} (h:ReachN n p frm start k y t):getI (nowS n p frm start k) y≤t:=by
 have hv:never=1073741824:=rfl
 have hok:=(z117 hn hp (-1)).1
 induction h with
 | refl =>
  have hl:frm.toNat<(List.replicate n.places.toNat never).length:=by simp;omega
  show getI (arrivals0 n frm start) frm≤start
  unfold arrivals0;rw [z68 _ _ _ _ hf.1 hl hf.1,if_pos rfl];exact Int.le_refl _
 | @step k y t w hr hm hfe hle ih =>
  have hrg:=hr.reach.range hok hs hf
  obtain ⟨_,_,w3⟩:=hok w hm
  have w3:okTime (spanW w.2 p).hi:=w3
  have hne:getI (nowS n p frm start k) w.2.frm≠never:=by rw [hfe];omega
  have h1:=z1017 hn hp hf hs k hm hne
  rw [hfe] at h1
  have h0:0≤getI (nowS n p frm start k) y:=by
   rcases (z225 hn hp hf hs k).2 y (by omega) (by omega) with h | h <;> omega
  exact Int.le_trans h1 (z160 h0 ih w3)
theorem z1043 (hn:n.Good) (hp:p.Good) (hf:0≤frm∧frm<n.places) (hs:0≤start∧start≤2880):∀ (r:Nat) (y:Int),0≤y→y<n.places→getI (arrivalsL n p spanHi frm start (-1)) y≠never →
  lower n.places.toNat (fun z=>getI (arrivalsL n p spanHi frm start (-1)) z) y≤r→∃ k,k≤r∧ReachN n p frm start k y (getI (arrivalsL n p spanHi frm start (-1)) y):=by
 have hv:never=1073741824:=rfl
 have hok:=(z117 hn hp (-1)).1
 obtain ⟨A1,A2⟩:=z541 (q:=spanHi) (but:=-1) hok hf hs
 obtain ⟨D,hD⟩:∃ D:Int→Int,D=fun z=>getI (arrivalsL n p spanHi frm start (-1)) z:=⟨_,rfl⟩
 have A1':∀ y,0≤y→y<n.places→D y=never∨(0≤D y∧D y≤2880∧Reach (waysL n p (-1)) (durHi p) frm start y (D y)):=by rw [hD];exact A1
 have A2':∀ y t,Reach (waysL n p (-1)) (durHi p) frm start y t→D y≤t:=by rw [hD];exact A2
 clear A1 A2
 intro r
 have key:∀ r (y:Int),0≤y→y<n.places→D y≠never→lower n.places.toNat D y≤r→∃ k,k≤r∧ReachN n p frm start k y (D y):=by
  intro r
  induction r with
  | zero =>
   intro y hy hyn hne hlow
   rcases A1' y hy hyn with h | ⟨h1,h2,h3⟩
   ·exact absurd h hne
   obtain ⟨dy,hdy⟩:∃ dy,dy=D y:=⟨_,rfl⟩
   rw [← hdy] at h3 h2 h1 ⊢
   cases h3 with
   | refl=>exact ⟨0,Nat.le_refl _,.refl⟩
   | @step z t w hr hm hfe hle =>
    exfalso
    have hrg:=hr.range hok hs hf
    obtain ⟨_,_,w3⟩:=hok w hm
    have w3:okTime (durHi p w.2):=w3
    have hlt:D z<D w.2.to:=by
     have h4:=A2' z t hr
     rcases z34 (opens:=w.2.opens) (t:=t) (by omega) w3 with h | h
     ·omega
     ·unfold okTime at w3;omega
    have:=z857 (m:=n.places.toNat) hlt (by omega)
    omega
  | succ r ih =>
   intro y hy hyn hne hlow
   rcases A1' y hy hyn with h | ⟨h1,h2,h3⟩
   ·exact absurd h hne
   obtain ⟨dy,hdy⟩:∃ dy,dy=D y:=⟨_,rfl⟩
   rw [← hdy] at h3 h2 h1 ⊢
   cases h3 with
   | refl=>exact ⟨0,Nat.zero_le _,.refl⟩
   | @step z t w hr hm hfe hle =>
    have hrg:=hr.range hok hs hf
    obtain ⟨_,_,w3⟩:=hok w hm
    have w3:okTime (durHi p w.2):=w3
    have h4:=A2' z t hr
    have hlt:D z<D w.2.to:=by
     rcases z34 (opens:=w.2.opens) (t:=t) (by omega) w3 with h | h
     ·omega
     ·unfold okTime at w3;omega
    have hlz:=z857 (m:=n.places.toNat) hlt (by omega)
    have hDz:D z≠never:=by omega
    obtain ⟨k,hk,hrk⟩:=ih z (by omega) (by omega) hDz (by omega)
    have hz0:0≤D z:=by rcases A1' z (by omega) (by omega) with h | h <;> omega
    have hle':=z160 (opens:=w.2.opens) hz0 h4 w3
    have hge:=A2' w.2.to _ (Reach.step w hrk.reach hm hfe (by omega))
    have he:arriveF w.2.opens t (durHi p w.2)=arriveF w.2.opens (D z) (spanW w.2 p).hi:=by
     have e1:arriveF w.2.opens (D z) (spanW w.2 p).hi=arriveF w.2.opens (D z) (durHi p w.2):=rfl
     rw [e1]
     rw [← hdy] at hge
     change arriveF w.2.opens t (durHi p w.2)≤_ at hge
     omega
    refine ⟨k + 1,by omega,?_⟩
    rw [he]
    exact .step w hrk hm hfe (by rw [← he];exact hle)
 rw [hD] at key
 exact key r
theorem z287 {α:Type} {q:α→Bool}:∀ (l:List α) (i k:Nat) (x:α),l[k]?=some x→q x=true→∃ j,j≤k∧idxFrom q l i=((i + j:Nat):Int)∧(∃ y,l[j]?=some y∧q y=true)∧∀ m y,m<j→l[m]?=some y→q y=false
 | [],i,k,x,h,_=>by simp at h
 | a::l,i,k,x,h,hq=>by
  unfold idxFrom
  by_cases ha:q a=true
  ·rw [if_pos ha]
   exact ⟨0,Nat.zero_le _,rfl,⟨a,rfl,ha⟩,fun m y hm=>by omega⟩
  ·rw [if_neg ha]
   cases k with
   | zero=>simp at h;subst h;exact absurd hq ha
   | succ k =>
    obtain ⟨j,h1,h2,h3,h4⟩:=z287 l (i + 1) k x (by simpa using h) hq
    refine ⟨j + 1,by omega,by rw [h2];congr 1;omega,by simpa using h3,fun m y hm hy=>?_⟩
    cases m with
    | zero=>simp at hy;subst hy;simpa using ha
    | succ m=>exact h4 m y (by omega) (by simpa using hy)
theorem z345 (hn:n.Good) (hp:p.Good) (hf:0≤frm∧frm<n.places) (hs:0≤start∧start≤2880) {to:Int} (ht:0≤to∧to<n.places) (hne:getI (arrivalsL n p spanHi frm start (-1)) to≠never) :
  ∃ K:Nat,fewest n p frm start to (getI (arrivalsL n p spanHi frm start (-1)) to)=K∧K<n.places.toNat∧ReachN n p frm start K to (getI (arrivalsL n p spanHi frm start (-1)) to) ∧
   ∀ j t,j<K→ReachN n p frm start j to t→getI (arrivalsL n p spanHi frm start (-1)) to<t:=by
 have hok:=(z117 hn hp (-1)).1
 obtain ⟨arr,harr⟩:∃ arr,arr=getI (arrivalsL n p spanHi frm start (-1)) to:=⟨_,rfl⟩
 obtain ⟨A1,A2⟩:=z541 (q:=spanHi) (but:=-1) hok hf hs
 have hA2:=A2 to
 have hA1:=A1 to ht.1 ht.2
 obtain ⟨k,hk,hr⟩:=z1043 hn hp hf hs (n.places.toNat - 1) to ht.1 ht.2 hne (by have:=z1100 (m:=n.places.toNat) (d:=fun z=>getI (arrivalsL n p spanHi frm start (-1)) z) (y:=to) (by omega);omega)
 rw [← harr] at hr hne hA2 hA1 ⊢
 have hpl:=hn.places
 have hge:∀ k,arr≤getI (nowS n p frm start k) to:=by
  intro k
  rcases (z225 hn hp hf hs k).2 to ht.1 ht.2 with h | ⟨_,_,h⟩
  ·have hv:never=1073741824:=rfl
   rcases hA1 with h' | h' <;> omega
  ·exact hA2 _ h.reach
 have hget:∀ j,j<n.places.toNat→(stepsL n p frm start (n.places.toNat - 1))[j]?=some (nowS n p frm start j):=by
  intro j hj
  simp [stepsL,show j<n.places.toNat - 1 + 1 by omega]
 have hkq:(getI (nowS n p frm start k) to == arr)=true:=by
  have h1:=z436 hn hp hf hs hr
  have h2:=hge k
  simp;omega
 obtain ⟨K,h1,h2,⟨l,h3,h4⟩,h5⟩:=z287 (q:=fun l=>getI l to == arr) (stepsL n p frm start (n.places.toNat - 1)) 0 k _ (hget k (by omega)) hkq
 have hKl:K<n.places.toNat:=by omega
 rw [hget K hKl] at h3
 cases h3
 have hKe:getI (nowS n p frm start K) to=arr:=by simpa using h4
 refine ⟨K,by unfold fewest;rw [h2];simp,hKl,?_,fun j t hj hrj=>?_⟩
 ·rcases (z225 hn hp hf hs K).2 to ht.1 ht.2 with h | ⟨_,_,h⟩
  ·rw [hKe] at h;exact absurd h hne
  ·rwa [hKe] at h
 ·have h6:=h5 j _ hj (hget j (by omega))
  have h7:=z436 hn hp hf hs hrj
  have h8:=hge j
  have h9:getI (nowS n p frm start j) to≠arr:=by simpa using h6
  omega
end
end Go.Ab
/- Plain laws of layer 1: the route that is returned,path by path. -/
namespace Go.Ab
open Go.RowKit Go.Proofs
set_option maxHeartbeats 1000000
def lexLe:List Int→List Int→Prop
 | [],_=>True
 | _::_,[]=>False
 | a::l,b::m=>a<b∨(a=b∧lexLe l m)
section
variable {n:Net} {p:Party} {to arr:Int}
theorem z214 (hn:n.Good) (hp:p.Good) {cur:List Int} (t y:Int) (hy:0≤y):∀ (ws:List (Nat × Path)) (l:List Int),(∀ w ∈ ws,w ∈ waysL n p (-1))→l.length=n.places.toNat →
  (t≤getI (ws.foldl (relaxBy p cur) l) y↔t≤getI l y∨∃ w ∈ ws,w.2.frm=y∧t≤latestF w.2.opens (wr (getI cur w.2.to - (spanW w.2 p).hi))):=by
 intro ws
 induction ws with
 | nil=>intro l _ _;simp
 | cons v ws ih =>
  intro l hs hl
  obtain ⟨v1,_,_⟩:=(z117 hn hp (-1)).1 v (hs v (by simp))
  have hsz:v.2.frm.toNat<l.length:=by omega
  rw [List.foldl_cons,ih _ (fun w hw=>hs w (by simp [hw])) (by rw [z325,hl])]
  unfold relaxBy
  rw [z68 _ _ _ _ v1.1 hsz hy]
  simp only [List.mem_cons,exists_eq_or_imp]
  by_cases h:y=v.2.frm
  ·subst h
   rw [if_pos rfl]
   constructor
   ·rintro (h1 | h1)
    ·by_cases h2:t≤getI l v.2.frm
     ·exact .inl h2
     ·exact .inr (.inl ⟨rfl,by omega⟩)
    ·exact .inr (.inr h1)
   ·rintro (h1 | ⟨_,h1⟩ | h1)
    ·exact .inl (by omega)
    ·exact .inl (by omega)
    ·exact .inr h1
  ·rw [if_neg h]
   constructor
   ·rintro (h1 | h1)
    ·exact .inl h1
    ·exact .inr (.inr h1)
   ·rintro (h1 | ⟨h2,_⟩ | h1)
    ·exact .inl h1
    ·exact absurd h2.symm h
    ·exact .inr h1
theorem z697 (hn:n.Good) (hp:p.Good) (ht:0≤to∧to<n.places) (ha:0≤arr∧arr≤2880):∀ (k:Nat) (y:Int),0≤y→y<n.places→-1≤getI (byL n p to arr k) y∧getI (byL n p to arr k) y≤2880
 | 0,y,hy,hyn=>by
  have hl:to.toNat<(List.replicate n.places.toNat (-1:Int)).length:=by simp;omega
  show -1≤getI (deadlines0 n to arr) y∧getI (deadlines0 n to arr) y≤2880
  unfold deadlines0
  rw [z68 _ _ _ _ ht.1 hl hy]
  split
  ·omega
  ·rw [z140 hy (by omega)];omega
 | k + 1,y,hy,hyn=>by
  obtain ⟨c,hc⟩:∃ c,c=byL n p to arr k:=⟨_,rfl⟩
  have e:byL n p to arr (k + 1)=byNext n p c:=by rw [hc];rfl
  rw [e]
  constructor
  ·refine (z214 hn hp (-1) y hy (waysL n p (-1)) _ (fun _ h=>h) (by simp)).2 (.inl ?_)
   rw [z140 hy (by omega)];exact Int.le_refl _
  ·by_cases h:getI (byNext n p c) y≤2880
   ·exact h
   ·exfalso
    rcases (z214 (cur:=c) hn hp 2881 y hy (waysL n p (-1)) (List.replicate n.places.toNat (-1)) (fun _ h=>h) (by simp)).1 (by unfold byNext at h;omega) with h1 | ⟨w,hw,_,h1⟩
    ·rw [z140 hy (by omega)] at h1;omega
    ·have:=z445 (wr (getI c w.2.to - (spanW w.2 p).hi)) w.2.opens (-1) (by omega) (hn.hi w.2 (List.mem_of_getElem? (z56 hw)))
     change latestF _ _≤2880 at this
     omega
theorem z868 (hn:n.Good) (hp:p.Good) (ht:0≤to∧to<n.places) (ha:0≤arr∧arr≤2880) (k:Nat) {y t:Int} (hy:0≤y) (hyn:y<n.places) (h0:0≤t) :
  t≤getI (byL n p to arr (k + 1)) y↔∃ w ∈ waysL n p (-1),w.2.frm=y∧arriveF w.2.opens t (spanW w.2 p).hi≤getI (byL n p to arr k) w.2.to:=by
 obtain ⟨c,hc⟩:∃ c,c=byL n p to arr k:=⟨_,rfl⟩
 have e:byL n p to arr (k + 1)=byNext n p c:=by rw [hc];rfl
 have hr:=z697 hn hp ht ha k
 rw [e,← hc]
 rw [← hc] at hr
 unfold byNext
 rw [z214 hn hp t y hy (waysL n p (-1)) _ (fun _ h=>h) (by simp),z140 hy (by omega)]
 constructor
 ·rintro (h1 | ⟨w,hw,hf,h1⟩)
  ·omega
  ·obtain ⟨_,w2,w3⟩:=(z117 hn hp (-1)).1 w hw
   have hb:=hr w.2.to w2.1 w2.2
   exact ⟨w,hw,hf,(z444 h0 w3 hb.2 hb.1).1 h1⟩
 ·rintro ⟨w,hw,hf,h1⟩
  obtain ⟨_,w2,w3⟩:=(z117 hn hp (-1)).1 w hw
  have hb:=hr w.2.to w2.1 w2.2
  exact .inr ⟨w,hw,hf,(z444 h0 w3 hb.2 hb.1).2 h1⟩
theorem z867 (ht:0≤to∧to<n.places) {y t:Int} (hy:0≤y) (hyn:y<n.places) (h0:0≤t):t≤getI (byL n p to arr 0) y↔y=to∧t≤arr:=by
 have hl:to.toNat<(List.replicate n.places.toNat (-1:Int)).length:=by simp;omega
 show t≤getI (deadlines0 n to arr) y↔_
 unfold deadlines0
 rw [z68 _ _ _ _ ht.1 hl hy]
 split
 ·rename_i h;subst h;simp
 ·rename_i h
  rw [z140 hy (by omega)]
  constructor
  ·intro h1;omega
  ·rintro ⟨h1,_⟩;exact absurd h1 h
theorem Trail.by (hn:n.Good) (hp:p.Good) (ht:0≤to∧to<n.places) (ha:0≤arr∧arr≤2880) {y t z u:Int} {r:List Int} (h:Trail n p y t r z u):0≤y→y<n.places→0≤t→z=to→u≤arr→t≤getI (byL n p to arr r.length) y:=by
 induction h with
 | nil y t =>
  intro hy hyn h0 hz hu
  exact (z867 ht hy hyn h0).2 ⟨hz,hu⟩
 | @cons y t z u r w hm hf hle hr ih =>
  intro hy hyn h0 hz hu
  obtain ⟨_,w2,w3⟩:=(z117 hn hp (-1)).1 w hm
  have w3:okTime (spanW w.2 p).hi:=w3
  have h1:0≤arriveF w.2.opens t (spanW w.2 p).hi:=by
   have hv:never=1073741824:=rfl
   rcases z34 (opens:=w.2.opens) h0 w3 with h | h
   ·omega
   ·unfold okTime at w3;omega
  exact (z868 hn hp ht ha r.length hy hyn h0).2 ⟨w,hm,hf,ih w2.1 w2.2 h1 hz hu⟩
theorem z268 (p:Party) (but:Int) (q:Nat × Path→Bool):∀ (l:List Path) (i:Nat) (w:Nat × Path),(waysFrom p but l i).find? q=some w→∀ v ∈ waysFrom p but l i,q v=true→w.1≤v.1
 | [],i,w,h,v,hv,_=>by simp [waysFrom] at hv
 | x::l,i,w,h,v,hv,hq=>by
  unfold waysFrom at h hv
  split at h
  ·rename_i hc
   rw [if_pos hc] at hv
   rw [List.find?_cons] at h
   split at h
   ·cases h
    rcases List.mem_cons.1 hv with rfl | hv
    ·exact Nat.le_refl _
    ·have:=(z99 p but l (i + 1) v hv).1
     show i≤v.1
     omega
   ·rename_i hqx
    rcases List.mem_cons.1 hv with rfl | hv
    ·rw [hq] at hqx;cases hqx
    ·exact z268 p but q l (i + 1) w h v hv hq
  ·rename_i hc
   rw [if_neg hc] at hv
   exact z268 p but q l (i + 1) w h v hv hq
theorem z324 (hn:n.Good) (hp:p.Good) (ht:0≤to∧to<n.places) (ha:0≤arr∧arr≤2880):∀ (k:Nat) (l:List Int) (y t:Int),0≤y→y<n.places→0≤t→t≤2880→t≤getI (byL n p to arr k) y →
  ∃ r u,routeD n p to arr k (l,y,t)=(l++r,to,u)∧r.length=k∧Trail n p y t r to u∧u≤arr∧∀ r' u',Trail n p y t r' to u'→u'≤arr→r'.length=k→lexLe r r'
 | 0,l,y,t,hy,hyn,h0,h1,hb=>by
  obtain ⟨hyt,hb'⟩:=(z867 ht hy hyn h0).1 hb
  exact ⟨[],t,by simp [routeD,hyt],rfl,hyt ▸ .nil _ _,hb',fun r' u' _ _ _=>by simp [lexLe]⟩
 | k + 1,l,y,t,hy,hyn,h0,h1,hb=>by
  obtain ⟨v,hv,hvf,hva⟩:=(z868 hn hp ht ha k hy hyn h0).1 hb
  have hrg:=z697 hn hp ht ha k
  have hfit:∀ w,fitsR p (byL n p to arr k) (l,y,t) w=true↔w.2.frm=y∧arriveF w.2.opens t (spanW w.2 p).hi≤getI (byL n p to arr k) w.2.to:=by
   intro w;unfold fitsR;simp
  have hsome:((waysL n p (-1)).find? (fitsR p (byL n p to arr k) (l,y,t))).isSome=true:=by
   rw [List.find?_isSome]
   exact ⟨v,hv,(hfit v).2 ⟨hvf,hva⟩⟩
  obtain ⟨w,hw⟩:=Option.isSome_iff_exists.1 hsome
  have hwm:w ∈ waysL n p (-1):=List.mem_of_find?_eq_some hw
  obtain ⟨hwf,hwa⟩:=(hfit w).1 (by simpa using List.find?_some hw)
  obtain ⟨_,w2,w3⟩:=(z117 hn hp (-1)).1 w hwm
  have w3:okTime (spanW w.2 p).hi:=w3
  have hb2:=hrg w.2.to w2.1 w2.2
  have hle:arriveF w.2.opens t (spanW w.2 p).hi≤2880:=by omega
  have hge:0≤arriveF w.2.opens t (spanW w.2 p).hi:=by
   have hv:never=1073741824:=rfl
   rcases z34 (opens:=w.2.opens) h0 w3 with h | h
   ·omega
   ·unfold okTime at w3;omega
  obtain ⟨r,u,e1,e2,e3,e4,e5⟩:=z324 hn hp ht ha k (l++[(w.1:Int)]) w.2.to _ w2.1 w2.2 hge hle hwa
  refine ⟨(w.1:Int)::r,u,?_,by simp [e2],.cons w hwm hwf hle e3,e4,fun r' u' ht' hu' hl'=>?_⟩
  ·show routeD n p to arr k (stepR n p (byL n p to arr k) (l,y,t))=_
   unfold stepR
   rw [hw]
   dsimp only
   rw [e1]
   simp
  ·cases ht' with
   | nil=>simp at hl'
   | @cons _ _ _ _ r2 w' hm' hf' hle' htr =>
    obtain ⟨_,v2,v3⟩:=(z117 hn hp (-1)).1 w' hm'
    have v3:okTime (spanW w'.2 p).hi:=v3
    have hge':0≤arriveF w'.2.opens t (spanW w'.2 p).hi:=by
     have hv:never=1073741824:=rfl
     rcases z34 (opens:=w'.2.opens) h0 v3 with h | h
     ·omega
     ·unfold okTime at v3;omega
    have hl2:r2.length=k:=by simpa using hl'
    have hby:=htr.by hn hp ht ha v2.1 v2.2 hge' rfl hu'
    rw [hl2] at hby
    have hfst:=z268 p (-1) _ n.paths 0 w hw w' hm' ((hfit w').2 ⟨hf',hby⟩)
    by_cases heq:w.1=w'.1
    ·have hpe:w=w':=by
      have g1:=z56 hwm
      have g2:=z56 hm'
      rw [heq,g2] at g1
      exact Prod.ext heq (Option.some.inj g1).symm
     subst hpe
     exact Or.inr ⟨rfl,e5 r2 u' htr hu' hl2⟩
    ·exact Or.inl (by omega)
end
theorem ReachN.trail {n:Net} {p:Party} {x s:Int} {k:Nat} {y t:Int} (h:ReachN n p x s k y t):∀ {z u:Int} {r:List Int},Trail n p y t r z u→∃ r',r'.length=k + r.length∧Trail n p x s r' z u:=by
 induction h with
 | refl=>exact fun ht=>⟨_,by simp,ht⟩
 | @step k y t w _ hm hf hle ih =>
  intro z u r ht
  obtain ⟨r',h1,h2⟩:=ih (.cons w hm hf hle ht)
  exact ⟨r',by rw [h1];simp;omega,h2⟩
theorem Trail.reachN {n:Net} {p:Party} {x s:Int} {y t z u:Int} {r:List Int} (h:Trail n p y t r z u):∀ {k:Nat},ReachN n p x s k y t→ReachN n p x s (k + r.length) z u:=by
 induction h with
 | nil=>exact fun h=>h
 | cons w hm hf hle _ ih =>
  intro k hk
  have:=ih (.step w hk hm hf hle)
  rw [List.length_cons]
  rw [Nat.add_assoc,Nat.add_comm 1] at this
  exact this
theorem z809 {n:Net} {p:Party} {frm start to:Int} (hn:n.Good) (hp:p.Good) (hf:0≤frm∧frm<n.places) (ht:0≤to∧to<n.places) (hs:0≤start∧start≤2880) (hne:getI (arrivalsL n p spanHi frm start (-1)) to≠never) :
  ∃ r,routeL n p frm start to=(r,getI (arrivalsL n p spanHi frm start (-1)) to,0)∧r.length<n.places.toNat∧Trail n p frm start r to (getI (arrivalsL n p spanHi frm start (-1)) to) ∧
   (∀ r',Trail n p frm start r' to (getI (arrivalsL n p spanHi frm start (-1)) to)→r.length≤r'.length) ∧
   ∀ r',Trail n p frm start r' to (getI (arrivalsL n p spanHi frm start (-1)) to)→r'.length=r.length→lexLe r r':=by
 obtain ⟨K,h1,h2,h3,h4⟩:=z345 hn hp hf hs ht hne
 obtain ⟨a1,a2⟩:=z541 (q:=spanHi) (but:=-1) (z117 hn hp (-1)).1 hf hs
 have hop:openF n p [frm,to] [start]=0:=z223.2 ⟨hn,hp,by simpa using ⟨hf,ht⟩,by simpa using hs⟩
 have hA:=a1 to ht.1 ht.2
 have hA2:=a2 to
 obtain ⟨arr,harr⟩:∃ arr,arr=getI (arrivalsL n p spanHi frm start (-1)) to:=⟨_,rfl⟩
 have hrl:routeL n p frm start to=((routeD n p to arr K ([],frm,start)).1,arr,0):=by
  unfold routeL
  rw [if_pos hop]
  dsimp only
  rw [if_neg hne,h1,harr]
  simp
 rw [← harr] at h3 h4 hA hA2 hne ⊢
 have ha:0≤arr∧arr≤2880:=by rcases hA with h | ⟨h,h',_⟩;exact absurd h hne;exact ⟨h,h'⟩
 obtain ⟨r0,hr0,ht0⟩:=h3.trail (.nil to arr)
 have hb:=ht0.by hn hp ht ha hf.1 hf.2 hs.1 rfl (Int.le_refl _)
 rw [hr0] at hb
 obtain ⟨r,u,e1,e2,e3,e4,e5⟩:=z324 hn hp ht ha K [] frm start hf.1 hf.2 hs.1 hs.2 hb
 have hu:u=arr:=by
  have:=hA2 u e3.reach
  omega
 subst hu
 refine ⟨r,by rw [hrl,e1];simp,by omega,e3,fun r' hr'=>?_,fun r' hr' hl=>e5 r' _ hr' (Int.le_refl _) (by omega)⟩
 by_cases hlt:r'.length<K
 ·have:=hr'.reachN (x:=frm) (s:=start) (ReachN.refl)
  rw [Nat.zero_add] at this
  have:=h4 _ _ hlt this
  omega
 ·omega
theorem z632 {n:Net} {p:Party} {frm start to:Int} (hop:openF n p [frm,to] [start]=0) (h:getI (arrivalsL n p spanHi frm start (-1)) to=never):routeL n p frm start to=([],0,3):=by
 unfold routeL
 rw [if_pos hop]
 dsimp only
 rw [if_pos h]
theorem f9' (n:Net) (p:Party) (frm start to:Int) (hs:n.Small):Fn Try.prog 9 [.agg n.cells,.agg p.cells,.i frm,.i start,.i to]
  (.tup [.sl (intRows (routeL n p frm start to).1),.i (routeL n p frm start to).2.1,.i (routeL n p frm start to).2.2]):=by
 refine zf9 n p frm start to hs fun hop hne=>?_
 have ho:=z223.1 hop
 obtain ⟨K,h1,h2,_,_⟩:=z345 ho.net ho.party (ho.place frm (by simp)) (ho.minute start (by simp)) (ho.place to (by simp)) hne
 exact ⟨K,h1,by have:=ho.net.places;omega⟩
end Go.Ab
/- Plain laws of layer 1: a path that is shut;paths that must stay open. -/
namespace Go.Ab
open Go.RowKit Go.Proofs
set_option maxHeartbeats 1000000
def Path.shut (x:Path):Path:={ x with opens:=[] }
def Net.shut (n:Net) (i:Nat):Net:={ n with paths:=n.paths.modify i Path.shut }
section
variable {n:Net} {p:Party} {frm start:Int}
end
theorem z1074 (q:Nat→Bool) (k i:Nat) (h:i<k):((selL q k).any fun y=>y == (i:Int))=q i:=by
 unfold selL
 cases hq:q i with
 | true =>
  rw [List.any_eq_true]
  refine ⟨(i:Int),List.mem_map.2 ⟨i,?_,rfl⟩,by simp⟩
  simp [h,hq]
 | false =>
  rw [List.any_eq_false]
  intro y hy hc
  obtain ⟨j,hj,rfl⟩:=List.mem_map.1 hy
  have:j=i:=by have:(j:Int)=(i:Int):=by simpa using hc
               omega
  subst this
  simp [hq] at hj
end Go.Ab
/- Plain laws of layer 1: who walks a route comes in time. -/
namespace Go.Ab
open Go.RowKit Go.Proofs
set_option maxHeartbeats 1000000
theorem z636 (n:Net) (p:Party) (s:Int × Int) (v:Int) (r:List Int) (i:Nat):posR n p s (v::r) (i + 1)=posR n p (goOn n p s v) r i:=rfl
theorem z435 {n:Net} {p:Party} {but:Int} {w:Nat × Path} (h:w ∈ waysL n p but):pathAt n (w.1:Int)=w.2:=by
 have:=z56 h
 simp [pathAt,List.getD,this]
section
variable {n:Net} {p:Party}
theorem Trail.at {y t z u:Int} {r:List Int} (h:Trail n p y t r z u):∀ (i:Nat) v,r[i]?=some v→∃ w ∈ waysL n p (-1),(w.1:Int)=v∧pathAt n v=w.2∧w.2.frm=(posR n p (y,t) r i).1∧arriveF w.2.opens (posR n p (y,t) r i).2 (spanW w.2 p).hi≤2880:=by
 induction h with
 | nil=>intro i v hv;simp at hv
 | @cons y t z u r w hm hf hle hr ih =>
  intro i v hv
  have hp:=z435 hm
  cases i with
  | zero =>
   simp at hv
   subst hv
   exact ⟨w,hm,rfl,hp,hf,hle⟩
  | succ i =>
   rw [z636]
   have hg:goOn n p (y,t) (w.1:Int)=(w.2.to,arriveF w.2.opens t (spanW w.2 p).hi):=by unfold goOn;rw [hp]
   rw [hg]
   exact ih i v (by simpa using hv)
theorem Trail.last {y t z u:Int} {r:List Int} (h:Trail n p y t r z u):posR n p (y,t) r r.length=(z,u):=by
 induction h with
 | nil=>rfl
 | @cons y t z u r w hm hf hle hr ih =>
  rw [List.length_cons,z636]
  have hg:goOn n p (y,t) (w.1:Int)=(w.2.to,arriveF w.2.opens t (spanW w.2 p).hi):=by unfold goOn;rw [z435 hm]
  rw [hg]
  exact ih
theorem Trail.walkR {y t z u:Int} {r:List Int} (h:Trail n p y t r z u):Go.Ab.walkR n p y r=some z:=by
 induction h with
 | nil=>rfl
 | @cons y t z u r w hm hf hle hr ih =>
  obtain ⟨g1,g2,_⟩:=z549.1 hm
  have hlt:=(List.getElem?_eq_some_iff.1 g1).1
  have ho:onB n p y (w.1:Int)=some w.2.to:=by
   unfold onB
   rw [if_pos (z27.2 (by omega)),Int.toNat_natCast,g1]
   simp [g2,hf]
  show List.foldl _ (onB n p y (w.1:Int)) r=some z
  rw [ho]
  exact ih
end
end Go.Ab
