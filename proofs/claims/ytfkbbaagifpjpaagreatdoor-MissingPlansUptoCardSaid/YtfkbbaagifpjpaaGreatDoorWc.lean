/- A walk engine over abstract states, and the contracts of the functions that the statement reaches: part 3. -/
import Derived.Test.YtfkbbaagifpjpaaGreatDoorWb
import Derived.Test.YtfkbbaagifpjpaaGreatDoorProg
import Derived.ChangeArms
import Derived.Test.YtfkbbaagifpjpaaGreatDoorRows
import Derived.JoinedCond
import Derived.Carry
import Derived.RowKit
import Derived.LaidMore
import Derived.LaidLaws
import Derived.LaidHandle
import Derived.MakeChecks
import Derived.Deep.Strs
set_option linter.unusedVariables false
set_option linter.unusedSimpArgs false
set_option linter.unnecessarySimpa false
/- Drawn regions in which something is appended: what named the array before is forgotten. -/
namespace Go.Ab
open Go.RowKit
def AV.whole:AV→Bool
 | .undef=>false
 | .agg cs | .tup cs | .fn _ cs=>AV.wholes cs
 | _=>true
where AV.wholes:List AV→Bool
 | []=>true
 | x::xs=>x.whole && AV.wholes xs
def AV.lose (n:Nat) (x:AV):AV:=x.sub n fun _=>.undef
mutual
theorem lose_same (n:Nat):∀ (x:AV),n ∉ x.refs→x.sub n (fun _=>.undef)=x
 | .box k o,h=>by simp only [AV.refs,List.mem_singleton] at h;simp only [AV.sub];rw [if_neg (fun e=>h e.symm)]
 | .elem k i o,h=>by simp only [AV.refs,List.mem_singleton] at h;simp only [AV.sub];rw [if_neg (fun e=>h e.symm)]
 | .own k,h=>by simp only [AV.refs,List.mem_singleton] at h;simp only [AV.sub];rw [if_neg (fun e=>h e.symm)]
 | .view k o l,h=>by simp only [AV.refs,List.mem_singleton] at h;simp only [AV.sub];rw [if_neg (fun e=>h e.symm)]
 | .bsl k o l,h=>by simp only [AV.refs,List.mem_singleton] at h;simp only [AV.sub];rw [if_neg (fun e=>h e.symm)]
 | .mp k,h=>by simp only [AV.refs,List.mem_singleton] at h;simp only [AV.sub];rw [if_neg (fun e=>h e.symm)]
 | .vh k l,h=>by simp only [AV.refs,List.mem_singleton] at h;simp only [AV.sub];rw [if_neg (fun e=>h e.symm)]
 | .vc k l,h=>by simp only [AV.refs,List.mem_singleton] at h;simp only [AV.sub];rw [if_neg (fun e=>h e.symm)]
 | .agg cs,h=>by simp only [AV.sub];rw [z122 n cs (by simpa [AV.refs] using h)]
 | .tup cs,h=>by simp only [AV.sub];rw [z122 n cs (by simpa [AV.refs] using h)]
 | .fn f cs,h=>by simp only [AV.sub];rw [z122 n cs (by simpa [AV.refs] using h)]
 | .undef,_=>rfl
 | .void,_=>rfl
 | .d _,_=>rfl
 | .nil,_=>rfl
 | .dfull _,_=>rfl
theorem z122 (n:Nat):∀ (l:List AV),n ∉ AV.refs.AV.refss l→AV.sub.AV.subs n (fun _=>.undef) l=l
 | [],_=>rfl
 | x::xs,h=>by
  simp only [AV.refs.AV.refss,List.mem_append,not_or] at h
  simp only [AV.sub.AV.subs]
  rw [lose_same n x h.1,z122 n xs h.2]
end
mutual
theorem z472 (n:Nat):∀ (x:AV),(x.sub n (fun _=>.undef)).whole=true→n ∉ x.refs
 | .box k o,h=>by
  simp only [AV.sub] at h
  split at h
  ·simp [AV.whole] at h
  ·rename_i hk;simp only [AV.refs,List.mem_singleton];exact fun e=>hk e.symm
 | .elem k i o,h=>by
  simp only [AV.sub] at h
  split at h
  ·simp [AV.whole] at h
  ·rename_i hk;simp only [AV.refs,List.mem_singleton];exact fun e=>hk e.symm
 | .own k,h=>by
  simp only [AV.sub] at h
  split at h
  ·simp [AV.whole] at h
  ·rename_i hk;simp only [AV.refs,List.mem_singleton];exact fun e=>hk e.symm
 | .view k o l,h=>by
  simp only [AV.sub] at h
  split at h
  ·simp [AV.whole] at h
  ·rename_i hk;simp only [AV.refs,List.mem_singleton];exact fun e=>hk e.symm
 | .bsl k o l,h=>by
  simp only [AV.sub] at h
  split at h
  ·simp [AV.whole] at h
  ·rename_i hk;simp only [AV.refs,List.mem_singleton];exact fun e=>hk e.symm
 | .mp k,h=>by
  simp only [AV.sub] at h
  split at h
  ·simp [AV.whole] at h
  ·rename_i hk;simp only [AV.refs,List.mem_singleton];exact fun e=>hk e.symm
 | .vh k l,h=>by
  simp only [AV.sub] at h
  split at h
  ·simp [AV.whole] at h
  ·rename_i hk;simp only [AV.refs,List.mem_singleton];exact fun e=>hk e.symm
 | .vc k l,h=>by
  simp only [AV.sub] at h
  split at h
  ·simp [AV.whole] at h
  ·rename_i hk;simp only [AV.refs,List.mem_singleton];exact fun e=>hk e.symm
 | .dfull _,_=>by simp [AV.refs]
 | .agg cs,h=>by simp only [AV.refs];exact z168 n cs (by simpa [AV.sub,AV.whole] using h)
 | .tup cs,h=>by simp only [AV.refs];exact z168 n cs (by simpa [AV.sub,AV.whole] using h)
 | .fn f cs,h=>by simp only [AV.refs];exact z168 n cs (by simpa [AV.sub,AV.whole] using h)
 | .undef,_=>by simp [AV.refs]
 | .void,_=>by simp [AV.refs]
 | .d _,_=>by simp [AV.refs]
 | .nil,_=>by simp [AV.refs]
theorem z168 (n:Nat):∀ (l:List AV),AV.whole.AV.wholes (AV.sub.AV.subs n (fun _=>.undef) l)=true→n ∉ AV.refs.AV.refss l
 | [],_=>by simp [AV.refs.AV.refss]
 | x::xs,h=>by
  simp only [AV.sub.AV.subs,AV.whole.AV.wholes,Bool.and_eq_true] at h
  simp only [AV.refs.AV.refss,List.mem_append,not_or]
  exact⟨z472 n x h.1,z168 n xs h.2⟩
end
mutual
theorem z549 (n:Nat) (f:AV→AV):∀ (x:AV),n ∉ x.refs→x.sub n f=x
 | .box k o,h=>by simp only [AV.refs,List.mem_singleton] at h;simp only [AV.sub];rw [if_neg (fun e=>h e.symm)]
 | .elem k i o,h=>by simp only [AV.refs,List.mem_singleton] at h;simp only [AV.sub];rw [if_neg (fun e=>h e.symm)]
 | .own k,h=>by simp only [AV.refs,List.mem_singleton] at h;simp only [AV.sub];rw [if_neg (fun e=>h e.symm)]
 | .view k o l,h=>by simp only [AV.refs,List.mem_singleton] at h;simp only [AV.sub];rw [if_neg (fun e=>h e.symm)]
 | .bsl k o l,h=>by simp only [AV.refs,List.mem_singleton] at h;simp only [AV.sub];rw [if_neg (fun e=>h e.symm)]
 | .mp k,h=>by simp only [AV.refs,List.mem_singleton] at h;simp only [AV.sub];rw [if_neg (fun e=>h e.symm)]
 | .vh k l,h=>by simp only [AV.refs,List.mem_singleton] at h;simp only [AV.sub];rw [if_neg (fun e=>h e.symm)]
 | .vc k l,h=>by simp only [AV.refs,List.mem_singleton] at h;simp only [AV.sub];rw [if_neg (fun e=>h e.symm)]
 | .agg cs,h=>by simp only [AV.sub];rw [z105 n f cs (by simpa [AV.refs] using h)]
 | .tup cs,h=>by simp only [AV.sub];rw [z105 n f cs (by simpa [AV.refs] using h)]
 | .fn g cs,h=>by simp only [AV.sub];rw [z105 n f cs (by simpa [AV.refs] using h)]
 | .undef,_=>rfl
 | .void,_=>rfl
 | .d _,_=>rfl
 | .nil,_=>rfl
 | .dfull _,_=>rfl
theorem z105 (n:Nat) (f:AV→AV):∀ (l:List AV),n ∉ AV.refs.AV.refss l→AV.sub.AV.subs n f l=l
 | [],_=>rfl
 | x::xs,h=>by
  simp only [AV.refs.AV.refss,List.mem_append,not_or] at h
  simp only [AV.sub.AV.subs]
  rw [z549 n f x h.1,z105 n f xs h.2]
end
mutual
theorem z705 (n:Nat):∀ (x:AV),n ∉ (x.sub n (fun _=>.undef)).refs
 | .box k o=>by simp only [AV.sub];split <;> simp_all [AV.refs,eq_comm]
 | .elem k i o=>by simp only [AV.sub];split <;> simp_all [AV.refs,eq_comm]
 | .own k=>by simp only [AV.sub];split <;> simp_all [AV.refs,eq_comm]
 | .view k o l=>by simp only [AV.sub];split <;> simp_all [AV.refs,eq_comm]
 | .bsl k o l=>by simp only [AV.sub];split <;> simp_all [AV.refs,eq_comm]
 | .mp k=>by simp only [AV.sub];split <;> simp_all [AV.refs,eq_comm]
 | .vh k l=>by simp only [AV.sub];split <;> simp_all [AV.refs,eq_comm]
 | .vc k l=>by simp only [AV.sub];split <;> simp_all [AV.refs,eq_comm]
 | .dfull _=>by simp [AV.sub,AV.refs]
 | .agg cs=>by simp only [AV.sub,AV.refs];exact z123 n cs
 | .tup cs=>by simp only [AV.sub,AV.refs];exact z123 n cs
 | .fn g cs=>by simp only [AV.sub,AV.refs];exact z123 n cs
 | .undef=>by simp [AV.sub,AV.refs]
 | .void=>by simp [AV.sub,AV.refs]
 | .d _=>by simp [AV.sub,AV.refs]
 | .nil=>by simp [AV.sub,AV.refs]
theorem z123 (n:Nat):∀ (l:List AV),n ∉ AV.refs.AV.refss (AV.sub.AV.subs n (fun _=>.undef) l)
 | []=>by simp [AV.sub.AV.subs,AV.refs.AV.refss]
 | x::xs=>by
  simp only [AV.sub.AV.subs,AV.refs.AV.refss,List.mem_append,not_or]
  exact⟨z705 n x,z123 n xs⟩
end
theorem StRel.rename0 {P:Program} {base out:Own} {st:St} {μ:Pl} {tmps:Array Value} {w:World} (h:StRel P base out st μ tmps w) {n:Nat} (hn:μ n=none) (hl:n<st.m.length) (e z:Nat) :
  ∃ μ',StRel P base out { t:=st.t,m:=st.m.set n (some (.arr e z [])) } μ' tmps w∧∀ b,ownOf out μ' b→ownOf out μ b:=by
 have hown:∀ b,ownOf out (μ.upd n (some .none0)) b→ownOf out μ b:=by
  rintro b (hb | ⟨k,z,l,c,hb⟩)
  ·exact .inl hb
  ·by_cases hk:k=n
   ·subst hk;rw [Pl.upd_same] at hb;cases hb
   ·rw [Pl.upd_ne μ _ hk] at hb;exact .inr ⟨k,z,l,c,hb⟩
 have hg:Goes w (ownOf out μ) w (ownOf out (μ.upd n (some .none0))):=fun b o v h1 h2=>⟨fun hc=>h1 (hown b hc),h2⟩
 have hμ:∀ k,(μ k).isSome→μ.upd n (some .none0) k=μ k:=fun k hk=>Pl.upd_ne μ _ (fun e=>by subst e;rw [hn] at hk;cases hk)
 refine⟨μ.upd n (some .none0),⟨h.size,fun i x v h1 h2=>(h.tmp i x v h1 h2).goes hg (fun n _ hs=>hμ n hs),⟨fun k b hk=>?_,fun k hk=>?_,fun k q b z l c z' l' c' h1 h2=>?_,fun k b z l c hb=>?_⟩,h.hid.less hown,h.out,h.le⟩,hown⟩
 ·rw [List.getElem?_set] at hk
  by_cases hkn:n=k
  ·subst hkn
   rw [if_pos rfl,if_pos hl] at hk
   cases hk
   exact .inl ⟨Pl.upd_same μ n _,rfl⟩
  ·rw [if_neg hkn] at hk
   exact (h.mem.blk k b hk).goes hg (Pl.upd_ne μ _ (Ne.symm hkn)) hμ (fun _ _ _ _ _=>rfl)
 ·rw [List.getElem?_set]
  by_cases hkn:n=k
  ·subst hkn;exact⟨.arr e z [],by rw [if_pos rfl,if_pos hl]⟩
  ·rw [if_neg hkn]
   rw [Pl.upd_ne μ _ (Ne.symm hkn)] at hk
   exact h.mem.dom k hk
 ·by_cases hk:k=n
  ·subst hk;rw [Pl.upd_same] at h1;cases h1
  ·by_cases hq:q=n
   ·subst hq;rw [Pl.upd_same] at h2;cases h2
   ·rw [Pl.upd_ne μ _ hk] at h1
    rw [Pl.upd_ne μ _ hq] at h2
    exact h.mem.inj k q b z l c z' l' c' h1 h2
 ·by_cases hk:k=n
  ·subst hk;rw [Pl.upd_same] at hb;cases hb
  ·rw [Pl.upd_ne μ _ hk] at hb
   exact h.mem.base k b z l c hb
def killT:Option Nat→List AV→List AV
 | none,t=>t
 | some n,t=>t.map (AV.sub n fun _=>.undef)
def killM:Option Nat→List (Option Blk)→List (Option Blk)
 | none,m=>m
 | some n,m=>subMem n (fun _=>.undef) m
def St.applyA (st:St) (dst:Option Tmp) (e:Eff) (k:Option Nat):St:=({ t:=killT k st.t,m:=killM k st.m }:St).apply dst e
def appOf (P:Program) (st:St) (dst:Option Tmp) (t t':TypeId) (s x:AV):Option (Eff × Option Nat):=if t'=t then match dst,tslice P t with
 | some d,some e=>match tsz P e,tbytes P e,(tzero P e).map (·.cells.size),elemsOf st x with
  | some z,some by_,some zl,some xs=>if zl=z∧0<z∧0<by_∧by_≤2 ^ 7∧headIs z xs then (match s with
    | .nil=>match st.fresh d with
     | true=>if xs.length≤2 ^ 39 then some (⟨.own d,some (d,.arr e z xs)⟩,none) else none
     | _=>none
    | .own n=>match st.m[n]? with
     | some (some (.arr e' z' rows))=>if e'=e∧z'=z∧rows.length + xs.length≤2 ^ 39 then some (⟨.own n,some (n,.arr e z (rows++xs))⟩,some n) else none
     | _=>none
    | .vc n len=>match st.m[n]? with
     | some (some (.arrP e' z' rows))=>if e'=e∧z'=z∧rows.length=len∧xs.length=1 then some (⟨.vh n (len + 1),some (n,.arrP e z (rows++xs))⟩,none) else none
     | _=>none
    | .dfull rows=>match st.fresh d with
     | true=>if rows.length + xs.length≤2 ^ 39∧0<rows.length∧0<xs.length∧headIs z rows then some (⟨.own d,some (d,.arr e z (rows++xs))⟩,none) else none
     | _=>none
    | _=>none) else none
  | _,_,_,_=>none
 | _,_=>none else none
def refsRows:List (List AV)→List Nat
 | []=>[]
 | r::l=>AV.refs.AV.refss r++refsRows l
def Blk.names:Blk→List Nat
 | .box row=>AV.refs.AV.refss row
 | .arrA _ _ rows=>refsRows rows
 | _=>[]
def boxTab:List (Option Blk)→Nat→List (Nat × List Nat)
 | [],_=>[]
 | some (.box row)::l,i=>(i,AV.refs.AV.refss row)::boxTab l (i + 1)
 | none::l,i=>boxTab l (i + 1)
 | some (.arr ..)::l,i=>boxTab l (i + 1)
 | some (.mp ..)::l,i=>boxTab l (i + 1)
 | some (.arrP ..)::l,i=>boxTab l (i + 1)
 | some (.arrA _ _ rows)::l,i=>(i,refsRows rows)::boxTab l (i + 1)
inductive EffA (P:Program) (o:Oper) (st:St):Eff→Option Nat→Prop where
 | old (e:Eff) (h:EffR P o st e):EffA P o st e none
 | app (t t':TypeId) (s x:Operand) (e:Eff) (k:Option Nat) (ho:o.op=.call { callee:=.builtin .append,args:=#[s,x],argTypes:=#[t,t'] })
   (h:appOf P st o.dst t t' (st.ev s) (st.ev x)=some (e,k)):EffA P o st e k
 | appR (t t':TypeId) (s x:Operand) (d n:Nat) (el z:Nat) (rows:List (List DV)) (hd:o.dst=some d) (hl:n<st.m.length) (hdl:d<st.t.length) (ho:o.op=.call { callee:=.builtin .append,args:=#[s,x],argTypes:=#[t,t'] })
   (h:appOf P st o.dst t t' (st.ev s) (st.ev x)=some (⟨.own n,some (n,.arr el z rows)⟩,some n)):EffA P o st ⟨.d (.sl rows),some (n,.arr el z [])⟩ (some n)
 | litD (d:Nat) (e z:Nat) (rows:List (List DV)) (t:TypeId) (len:Nat) (parts:Array (Nat × Operand)) (ho:o.op=.buildSlice t len parts) (hd:o.dst=some d) (hf:st.fresh d=true) (hdl:d<st.t.length)
   (h:opBuildSlice P st t len (parts.toList.map fun p=>(p.1,st.ev p.2))=some (.arr e z rows)) (hr:AV.refsAll (parts.toList.map fun p=>st.ev p.2)=[]):EffA P o st ⟨.d (.sl rows),none⟩ none
theorem z100:∀ (m:List (Option Blk)) (i j:Nat) (b:Blk) (n:Nat),m[j]?=some (some b)→n ∈ b.names→(i + j,b.names) ∈ boxTab m i
 | [],_,_,_,_,h,_=>by simp at h
 | none::l,i,j,b,n,h,hn=>by
  cases j with
  | zero=>simp at h
  | succ j=>simp only [boxTab];rw [show i + (j + 1)=i + 1 + j by omega];exact z100 l (i + 1) j b n (by simpa using h) hn
 | some (.arr _ _ _)::l,i,j,b,n,h,hn=>by
  cases j with
  | zero=>simp at h;subst h;cases hn
  | succ j=>simp only [boxTab];rw [show i + (j + 1)=i + 1 + j by omega];exact z100 l (i + 1) j b n (by simpa using h) hn
 | some (.arrP _ _ _)::l,i,j,b,n,h,hn=>by
  cases j with
  | zero=>simp at h;subst h;cases hn
  | succ j=>simp only [boxTab];rw [show i + (j + 1)=i + 1 + j by omega];exact z100 l (i + 1) j b n (by simpa using h) hn
 | some (.mp _ _ _)::l,i,j,b,n,h,hn=>by
  cases j with
  | zero=>simp at h;subst h;cases hn
  | succ j=>simp only [boxTab];rw [show i + (j + 1)=i + 1 + j by omega];exact z100 l (i + 1) j b n (by simpa using h) hn
 | some (.box r)::l,i,j,b,n,h,hn=>by
  cases j with
  | zero=>simp at h;subst h;simp [boxTab,Blk.names]
  | succ j=>simp only [boxTab,List.mem_cons];rw [show i + (j + 1)=i + 1 + j by omega];exact .inr (z100 l (i + 1) j b n (by simpa using h) hn)
 | some (.arrA _ _ r)::l,i,j,b,n,h,hn=>by
  cases j with
  | zero=>simp at h;subst h;simp [boxTab,Blk.names]
  | succ j=>simp only [boxTab,List.mem_cons];rw [show i + (j + 1)=i + 1 + j by omega];exact .inr (z100 l (i + 1) j b n (by simpa using h) hn)
mutual
theorem z1213 (n:Nat):∀ (x:AV),∀ k ∈ (x.sub n (fun _=>.undef)).refs,k ∈ x.refs
 | .box k o,q,h=>by simp only [AV.sub] at h;split at h <;> simp_all [AV.refs]
 | .elem k i o,q,h=>by simp only [AV.sub] at h;split at h <;> simp_all [AV.refs]
 | .own k,q,h=>by simp only [AV.sub] at h;split at h <;> simp_all [AV.refs]
 | .view k o l,q,h=>by simp only [AV.sub] at h;split at h <;> simp_all [AV.refs]
 | .bsl k o l,q,h=>by simp only [AV.sub] at h;split at h <;> simp_all [AV.refs]
 | .mp k,q,h=>by simp only [AV.sub] at h;split at h <;> simp_all [AV.refs]
 | .vh k l,q,h=>by simp only [AV.sub] at h;split at h <;> simp_all [AV.refs]
 | .vc k l,q,h=>by simp only [AV.sub] at h;split at h <;> simp_all [AV.refs]
 | .agg cs,q,h=>by simp only [AV.sub,AV.refs] at h ⊢;exact z151 n cs q h
 | .tup cs,q,h=>by simp only [AV.sub,AV.refs] at h ⊢;exact z151 n cs q h
 | .fn f cs,q,h=>by simp only [AV.sub,AV.refs] at h ⊢;exact z151 n cs q h
 | .undef,_,h=>h
 | .void,_,h=>h
 | .d _,_,h=>h
 | .nil,_,h=>h
 | .dfull _,_,h=>h
theorem z151 (n:Nat):∀ (l:List AV),∀ k ∈ AV.refs.AV.refss (AV.sub.AV.subs n (fun _=>.undef) l),k ∈ AV.refs.AV.refss l
 | [],_,h=>h
 | x::xs,q,h=>by
  simp only [AV.sub.AV.subs,AV.refs.AV.refss,List.mem_append] at h ⊢
  rcases h with h | h
  ·exact .inl (z1213 n x q h)
  ·exact .inr (z151 n xs q h)
end
theorem z109 {rows:List (List AV)} {n:Nat}:n ∈ refsRows rows↔∃ r ∈ rows,n ∈ AV.refs.AV.refss r:=by
 induction rows with
 | nil=>simp [refsRows]
 | cons r l ih=>simp [refsRows,ih]
theorem Blk.lose_same {n:Nat} {b:Blk} (h:n ∉ b.names):b.sub n (fun _=>.undef)=b:=by
 cases b with
 | box row=>simp only [Blk.sub];rw [← AV.subs_eq,z122 n row h]
 | arr=>rfl
 | mp=>rfl
 | arrP=>rfl
 | arrA e z rows =>
  simp only [Blk.sub]
  congr 1
  exact (List.map_congr_left fun r hr=>by rw [← AV.subs_eq,z122 n r (fun hc=>h (z109.2 ⟨r,hr,hc⟩))];rfl).trans (List.map_id rows)
theorem Blk.sub_names {n k:Nat} {b:Blk} (h:k ∈ (b.sub n (fun _=>.undef)).names):k ∈ b.names:=by
 cases b with
 | box row=>simp only [Blk.sub,Blk.names] at h ⊢;rw [← AV.subs_eq] at h;exact z151 n row k h
 | arr=>cases h
 | mp=>cases h
 | arrP=>cases h
 | arrA e z rows =>
  simp only [Blk.sub,Blk.names] at h ⊢
  obtain⟨r,hr,hk⟩:=z109.1 h
  obtain⟨r0,hr0,rfl⟩:=List.mem_map.1 hr
  rw [← AV.subs_eq] at hk
  exact z109.2 ⟨r0,hr0,z151 n r0 k hk⟩
theorem z1220 {k:Option Nat} {m:List (Option Blk)} {q:Nat} (h:∀ n b,k=some n→m[q]?=some (some b)→n ∉ b.names):(killM k m)[q]?=m[q]?:=by
 cases k with
 | none=>rfl
 | some n =>
  simp only [killM,z36]
  cases hm:m[q]? with
  | none=>rfl
  | some ob =>
   cases ob with
   | none=>rfl
   | some b=>simp only [Option.map_some];rw [Blk.lose_same (h n b rfl hm)]
theorem z1014 {n:Nat} {m:List (Option Blk)} {q:Nat} {b:Blk} (h:n ∉ b.names):subMem n (fun _=>.undef) (m.set q (some b))=(subMem n (fun _=>.undef) m).set q (some b):=by
 apply List.ext_getElem?
 intro i
 have hl:(subMem n (fun _=>AV.undef) m).length=m.length:=by
  have:∀ m:List (Option Blk),(subMem n (fun _=>AV.undef) m).length=m.length:=by
   intro m
   induction m with
   | nil=>rfl
   | cons x xs ih=>cases x <;> simp [subMem,ih]
  exact this m
 rw [z36,List.getElem?_set,List.getElem?_set,z36,hl]
 by_cases hq:q=i
 ·subst hq
  rw [if_pos rfl,if_pos rfl]
  split
  ·simp only [Option.map_some];rw [Blk.lose_same h]
  ·rfl
 ·rw [if_neg hq,if_neg hq]
section
variable {P:Program} {ops:Array Oper} {o:Oper} {s st:St}
theorem z502 {t t':TypeId} {s x:Operand} {e:Eff} {k:Option Nat} (ho:o.op=.call { callee:=.builtin .append,args:=#[s,x],argTypes:=#[t,t'] })
  (h:appOf P st o.dst t t' (st.ev s) (st.ev x)=some (e,k)):stepOp P o st=some (st.applyA o.dst e k):=by
 unfold stepOp
 rw [ho]
 simp only [List.map_cons,List.map_nil]
 unfold appOf at h
 unfold opAppend
 split at h
 ·rename_i htt
  rw [if_pos htt]
  split at h
  ·rename_i d e' hd he
   rw [hd,he]
   simp only
   split at h
   ·rename_i z by_ zl xs h1 h2 h3 h4
    rw [h1,h2,h3,h4]
    simp only
    split at h
    ·rename_i hc
     rw [if_pos hc]
     split at h
     ·rename_i hs
      rw [hs]
      simp only
      split at h
      ·rename_i hfr
       rw [hfr]
       simp only
       split at h
       ·rename_i hl
        rw [if_pos hl]
        cases h
        rfl
       ·cases h
      ·cases h
     ·rename_i n hs
      rw [hs]
      simp only
      split at h
      ·rename_i e2 z2 rows hm
       rw [hm]
       simp only
       split at h
       ·rename_i hl
        rw [if_pos hl]
        cases h
        rfl
       ·cases h
      ·cases h
     ·rename_i n len hs
      rw [hs]
      simp only
      split at h
      ·rename_i e2 z2 rows hm
       rw [hm]
       simp only
       split at h
       ·rename_i hl
        rw [if_pos hl]
        cases h
        rfl
       ·cases h
      ·cases h
     ·rename_i rows hs
      rw [hs]
      simp only
      split at h
      ·rename_i hfr
       rw [hfr]
       simp only
       split at h
       ·rename_i hl
        rw [if_pos hl]
        cases h
        rfl
       ·cases h
      ·cases h
     ·cases h
    ·cases h
   ·cases h
  ·cases h
 ·cases h
theorem EffA.step {e:Eff} {k:Option Nat} (h:EffA P o st e k):StepR P o st (st.applyA o.dst e k):=by
 cases h with
 | old e h=>exact h.step
 | app t t' s x _ _ ho h=>exact .inr (.inl ⟨by simp [isCall,ho],z502 ho h⟩)
 | appR t t' s x d n el z rows hd hl hdl ho h =>
  refine .inr (.inr ⟨by simp [isCall,ho],_,z502 ho h,fun base out μ tmps w μ1 tmps1 w1 _ h1=>?_⟩)
  have hn1:(st.applyA o.dst ⟨.own n,some (n,.arr el z rows)⟩ (some n)).m[n]?=some (some (.arr el z rows)):=by
   have:(killM (some n) st.m).length=st.m.length:=by
    have:∀ m:List (Option Blk),(subMem n (fun _=>AV.undef) m).length=m.length:=by
     intro m
     induction m with
     | nil=>rfl
     | cons x xs ih=>cases x <;> simp [subMem,ih]
    exact this _
   simp only [St.applyA,St.apply]
   rw [List.getElem?_set_self (by rw [this];exact hl)]
  obtain⟨μ2,h2,_,hless,hgone⟩:=h1.release n
  obtain⟨μ3,h3,hless3⟩:=h2.rename0 (hgone ⟨_,hn1⟩) (by
   have:=(List.getElem?_eq_some_iff.1 hn1).1
   unfold St.release
   rw [hn1]
   have e:∀ (f:AV→AV) (m:List (Option Blk)),(subMem n f m).length=m.length:=by
    intro f m
    induction m with
    | nil=>rfl
    | cons x xs ih=>cases x <;> simp [subMem,ih]
   simp only [e,List.length_set]
   exact this) el z
  refine⟨μ3,?_,fun b hb=>hless b (hless3 b hb)⟩
  have key:({ t:=((st.applyA o.dst ⟨.own n,some (n,.arr el z rows)⟩ (some n)).release n).t,m:=((st.applyA o.dst ⟨.own n,some (n,.arr el z rows)⟩ (some n)).release n).m.set n (some (.arr el z [])) }:St)=st.applyA o.dst ⟨.d (.sl rows),some (n,.arr el z [])⟩ (some n):=by
   have e1:(st.applyA o.dst ⟨.own n,some (n,.arr el z rows)⟩ (some n)).release n={ t:=(st.applyA o.dst ⟨.own n,some (n,.arr el z rows)⟩ (some n)).t.map (AV.sub n (snapLeaf (.arr el z rows))),m:=subMem n (snapLeaf (.arr el z rows)) ((st.applyA o.dst ⟨.own n,some (n,.arr el z rows)⟩ (some n)).m.set n none) }:=by
    unfold St.release
    rw [hn1]
   rw [e1]
   have ht:(st.applyA o.dst ⟨.own n,some (n,.arr el z rows)⟩ (some n)).t.map (AV.sub n (snapLeaf (.arr el z rows)))=(st.applyA o.dst ⟨.d (.sl rows),some (n,.arr el z [])⟩ (some n)).t:=by
    rw [hd]
    simp only [St.applyA,St.apply,St.put,killT,List.map_set,List.map_map]
    have:(AV.sub n (snapLeaf (.arr el z rows)) ∘ AV.sub n fun _=>AV.undef)=AV.sub n fun _=>AV.undef:=funext fun x=>z549 n _ _ (z705 n x)
    rw [this]
    simp [AV.sub,snapLeaf]
   have hm:(subMem n (snapLeaf (.arr el z rows)) ((st.applyA o.dst ⟨.own n,some (n,.arr el z rows)⟩ (some n)).m.set n none)).set n (some (.arr el z []))=(st.applyA o.dst ⟨.d (.sl rows),some (n,.arr el z [])⟩ (some n)).m:=by
    simp only [St.applyA,St.apply,killM,List.set_set]
    apply List.ext_getElem?
    intro i
    have hlen:∀ (f:AV→AV) (m:List (Option Blk)),(subMem n f m).length=m.length:=by
     intro f m
     induction m with
     | nil=>rfl
     | cons x xs ih=>cases x <;> simp [subMem,ih]
    rw [List.getElem?_set,List.getElem?_set,hlen,List.length_set]
    by_cases hi:n=i
    ·rw [if_pos hi,if_pos hi]
    ·rw [if_neg hi,if_neg hi,z36,List.getElem?_set_ne hi,z36]
     cases st.m[i]? with
     | none=>rfl
     | some ob =>
      cases ob with
      | none=>rfl
      | some b =>
       cases b with
       | box row =>
        simp only [Option.map_some,Blk.sub]
        rw [← AV.subs_eq,← AV.subs_eq,z105 n _ _ (z123 n row)]
       | arr=>rfl
       | mp=>rfl
       | arrP=>rfl
       | arrA e' z' rows' =>
        simp only [Option.map_some,Blk.sub,Option.some.injEq,Blk.arrA.injEq,true_and,List.map_map]
        exact List.map_congr_left fun r hr=>by simp only [Function.comp_def];rw [← AV.subs_eq,← AV.subs_eq,z105 n _ _ (z123 n r)]
   rw [ht,hm]
  rw [← key]
  exact h3
 | litD d e z rows t len parts ho hd hf hdl h hr =>
  have hst:stepOp P o st=some (st.addBlk d (.own d) (.arr e z rows)):=by
   have:=(EffR.lit (P:=P) d e z rows t len parts ho hd hf h hr)
   have hps:(parts.toList.map fun p=>(p.1,st.ev p.2)).map (·.2)=parts.toList.map fun p=>st.ev p.2:=by simp [Function.comp_def]
   unfold stepOp
   rw [ho]
   simp only [h,hd,Option.getD_some,hf,hps,hr]
   rfl
  refine .inr (.inr ⟨by simp [isCall,ho],_,hst,fun base out μ tmps w μ1 tmps1 w1 h0 h1=>?_⟩)
  have hfr:=z24 hf
  have hl:d<st.m.length:=(List.getElem?_eq_some_iff.1 hfr).1
  have hn1:(st.addBlk d (.own d) (.arr e z rows)).m[d]?=some (some (.arr e z rows)):=by simp only [St.addBlk];rw [List.getElem?_set_self hl]
  obtain⟨μ2,h2,_,hless,hgone⟩:=h1.release d
  refine⟨μ2,?_,hless⟩
  have hnp:=z128 h0.mem hfr
  have norefs:∀ (i:Nat) x,st.t[i]?=some x→d ∉ x.refs:=fun i x hx hc=>by
   have hi:i<tmps.size:=by rw [h0.size];exact (List.getElem?_eq_some_iff.1 hx).1
   have:=(h0.tmp i x tmps[i] hx (by simp [hi])).placed d hc
   rw [hnp] at this;cases this
  have norefm:∀ (i:Nat) b,st.m[i]?=some (some b)→d ∉ b.names:=fun i b hrow hc=>by
   have many:∀ (l:List AV),d ∈ AV.refs.AV.refss l→∃ (j:Nat) (x:AV),l[j]?=some x∧d ∈ x.refs:=by
    intro l
    induction l with
    | nil=>intro h;simp [AV.refs.AV.refss] at h
    | cons y ys ih =>
     intro h
     simp only [AV.refs.AV.refss,List.mem_append] at h
     rcases h with h | h
     ·exact⟨0,y,rfl,h⟩
     ·obtain⟨j,x,h1,h2⟩:=ih h;exact⟨j + 1,x,by simpa using h1,h2⟩
   cases b with
   | arr=>cases hc
   | mp=>cases hc
   | arrP=>cases hc
   | box row =>
    obtain⟨b,cs,ty,q1,q2,q3,q4⟩:=h0.mem.box hrow
    obtain⟨j,x,hx,hdx⟩:=many row hc
    have hj:j<cs.size:=Nat.lt_of_lt_of_le (List.getElem?_eq_some_iff.1 hx).1 q3
    have:=(q4 j x cs[j] hx (by simp [hj])).2.placed d hdx
    rw [hnp] at this;cases this
   | arrA e' z' rows' =>
    obtain⟨r,hr,hk⟩:=z109.1 hc
    obtain⟨j,x,hx,hdx⟩:=many r hk
    obtain⟨i',hi'⟩:=List.mem_iff_getElem?.1 hr
    rcases h0.mem.blk i _ hrow with ⟨_,rfl⟩ | ⟨b,cap,cs,q1,q2,q3,q4,q5,q6,q7⟩
    ·cases hr
    ·obtain⟨v,_,_,hv⟩:=q7 i' r j x hi' hx
     have:=hv.placed d hdx
     rw [hnp] at this;cases this
  have key:(st.addBlk d (.own d) (.arr e z rows)).release d=st.applyA o.dst ⟨.d (.sl rows),none⟩ none:=by
   have e1:(st.addBlk d (.own d) (.arr e z rows)).release d={ t:=(st.addBlk d (.own d) (.arr e z rows)).t.map (AV.sub d (snapLeaf (.arr e z rows))),m:=subMem d (snapLeaf (.arr e z rows)) ((st.addBlk d (.own d) (.arr e z rows)).m.set d none) }:=by
    unfold St.release
    rw [hn1]
   rw [e1,hd]
   simp only [St.addBlk,St.applyA,St.apply,St.put,killT,killM,List.map_set,List.set_set]
   have ht:st.t.map (AV.sub d (snapLeaf (.arr e z rows)))=st.t:=by
    apply List.ext_getElem?
    intro i
    rw [List.getElem?_map]
    cases hx:st.t[i]? with
    | none=>rfl
    | some x=>simp only [Option.map_some];rw [z549 d _ x (norefs i x hx)]
   have hm:subMem d (snapLeaf (.arr e z rows)) (st.m.set d none)=st.m:=by
    apply List.ext_getElem?
    intro i
    rw [z36,List.getElem?_set]
    by_cases hi:d=i
    ·subst hi
     rw [if_pos rfl,if_pos hl,hfr]
     rfl
    ·rw [if_neg hi]
     cases hx:st.m[i]? with
     | none=>rfl
     | some ob =>
      cases ob with
      | none=>rfl
      | some b =>
       cases b with
       | box row=>simp only [Option.map_some,Blk.sub];rw [← AV.subs_eq,z105 d _ row (norefm i _ hx)]
       | arr=>rfl
       | mp=>rfl
       | arrP=>rfl
       | arrA e' z' rows' =>
        simp only [Option.map_some,Blk.sub,Option.some.injEq,Blk.arrA.injEq,true_and]
        exact (List.map_congr_left fun r hr=>by rw [← AV.subs_eq,z105 d _ r (fun hc=>norefm i _ hx (z109.2 ⟨r,hr,hc⟩))];rfl).trans (List.map_id rows')
   rw [ht,hm]
   simp [AV.sub,snapLeaf]
  rw [← key]
  exact h2
theorem z390 {s s':St} {dst:Option Tmp} {t t':TypeId} {a x:AV} (h:Agree (a.refs++x.refs++dst.toList) s.m s'.m):appOf P s dst t t' a x=appOf P s' dst t t' a x:=by
 unfold appOf
 rw [z115 (st':=s') (h.mono fun n hn=>by simp [hn])]
 cases dst with
 | none=>rfl
 | some d =>
  have hfr:=z131 (s:=s) (s':=s') (h d (by simp))
  cases a with
  | own n=>simp only [h n (by simp [AV.refs])]
  | vc n len=>simp only [h n (by simp [AV.refs])]
  | dfull rows =>
   split
   ·split
    ·rename_i hd _
     cases hd
     split
     ·split
      ·rw [hfr]
      ·rfl
     ·rfl
    ·rfl
   ·rfl
  | nil =>
   split
   ·split
    ·rename_i hd _
     cases hd
     split
     ·split
      ·rw [hfr]
      ·rfl
     ·rfl
    ·rfl
   ·rfl
  | _=>rfl
def EffGA (P:Program) (ops:Array Oper) (o:Oper) (s:St) (e:Eff) (k:Option Nat):Prop:=match guardT ops o with
 | none=>False
 | some none=>EffA P o s e k
 | some (some (t,want))=>(s.ev (.tmp t)=.d (.bool want)∧EffA P o s e k)∨((s.ev (.tmp t)=.d (.bool (!want))∨s.ev (.tmp t)=.void)∧e=⟨.void,none⟩∧k=none)
theorem EffGA.step {e:Eff} {k:Option Nat} (h:EffGA P ops o s e k):StepG P ops o s (s.applyA o.dst e k):=by
 unfold EffGA at h
 unfold StepG
 unfold guardT at h
 cases hg:o.guard with
 | none=>rw [hg] at h;exact h.step
 | some gw =>
  obtain⟨j,want⟩:=gw
  rw [hg] at h
  simp only at h ⊢
  cases ht:(ops[j]?).bind (·.dst) with
  | none=>rw [ht] at h;exact h.elim
  | some t =>
   rw [ht] at h
   refine⟨t,rfl,?_⟩
   rcases h with ⟨h1,h2⟩ | ⟨h1,rfl,rfl⟩
   ·exact .inl ⟨h1,h2.step⟩
   ·exact .inr ⟨h1,by cases o.dst <;> rfl⟩
structure RecA where
 i:Nat
 e:Eff
 k:Option Nat
 N:List Nat
 R:List Nat
 u:Bool
def boxE (e:Eff):List Nat:=match e.m with
 | some (_,b)=>b.names
 | _=>[]
structure LocalA (P:Program) (ops:Array Oper) (o:Oper) (s:St) (r:RecA):Prop where
 eff:EffGA P ops o s r.e r.k
 loc:∀ s':St,(∀ t ∈ o.looksAt ops,s.ev (.tmp t)=s'.ev (.tmp t))→s.t.length=s'.t.length→s.m.length=s'.m.length→Agree r.N s.m s'.m→EffGA P ops o s' r.e r.k
 look:∀ t ∈ o.looksAt ops,∀ n ∈ (s.ev (.tmp t)).refs,n ∈ r.R
 whole:r.u=true→∀ t ∈ o.looksAt ops,(s.ev (.tmp t)).whole=true
 val:∀ n ∈ r.e.v.refs,n ∈ r.R
inductive ChainA (P:Program) (ops:Array Oper):List RecA→St→St→Prop where
 | nil (s:St):ChainA P ops [] s s
 | cons {r:RecA} {rs:List RecA} {s s':St} {o:Oper} (ho:ops[r.i]?=some o) (hd:dstOk o=true) (h:LocalA P ops o s r) (ht:ChainA P ops rs (s.applyA o.dst r.e r.k) s'):ChainA P ops (r::rs) s s'
def missB (k:Option Nat) (R:List Nat):Bool:=match k with
 | none=>true
 | some n=>!R.contains n
abbrev KeyA:=Nat × List Nat × List Nat × Option Nat × List Nat × Bool × List Nat
def RecA.key (r:RecA):KeyA:=(r.i,r.e.name,r.N,r.k,r.R,r.u,boxE r.e)
def clearB (Bf:Nat→List Nat) (k:Option Nat) (b:KeyA):Bool:=match k with
 | none=>true
 | some n=>(Bf n).all fun q=>!(b.2.2.1.contains q || b.2.1.contains q)
def indepA (ops:Array Oper) (Bf:Nat→List Nat) (a b:KeyA):Bool:=indepB ops (a.1,a.2.1,a.2.2.1) (b.1,b.2.1,b.2.2.1) &&
 ((a.2.2.2.1.isNone || (b.2.2.2.2.2.1 && missB a.2.2.2.1 b.2.2.2.2.1)) && ((missB b.2.2.2.1 a.2.2.2.2.1 && (a.2.2.2.1.isNone || b.2.2.2.1.isNone)) && (clearB Bf a.2.2.2.1 b && clearB Bf b.2.2.2.1 a)))
theorem z389 {dst:Option Tmp} {e:Eff} {k:Option Nat} {t:Tmp} (h:dst≠some t) (hk:∀ n,k=some n→n ∉ (s.ev (.tmp t)).refs):(s.applyA dst e k).ev (.tmp t)=s.ev (.tmp t):=by
 unfold St.applyA
 rw [z331 h]
 cases k with
 | none=>rfl
 | some n =>
  have:=hk n rfl
  simp only [St.ev,killT,List.getD_eq_getElem?_getD,List.getElem?_map] at this ⊢
  cases hx:s.t[t]? with
  | none=>rfl
  | some x =>
   rw [hx] at this
   simp only [Option.map_some,Option.getD_some] at this ⊢
   exact lose_same n x this
theorem z1154 {dst:Option Tmp} {e:Eff} {k:Option Nat} {t:Tmp} (h:dst≠some t) (hw:((s.applyA dst e k).ev (.tmp t)).whole=true):(s.applyA dst e k).ev (.tmp t)=s.ev (.tmp t):=by
 refine z389 h fun n hk=>?_
 subst hk
 unfold St.applyA at hw
 rw [z331 h] at hw
 simp only [St.ev,killT,List.getD_eq_getElem?_getD,List.getElem?_map] at hw ⊢
 cases hx:s.t[t]? with
 | none=>simp [AV.refs]
 | some x =>
  rw [hx] at hw
  simp only [Option.map_some,Option.getD_some] at hw ⊢
  exact z472 n x hw
theorem z950 {dst:Option Tmp} {e:Eff} {k:Option Nat} {n:Nat} (h:n ∉ e.name) (hk:∀ q b,k=some q→s.m[n]?=some (some b)→q ∉ b.names):(s.applyA dst e k).m[n]?=s.m[n]?:=by
 unfold St.applyA
 rw [z917 h]
 exact z1220 hk
theorem z1214 {n:Nat} {v:AV} (hv:n ∉ v.refs) (t:List AV) (a:Nat):(t.set a v).map (AV.sub n fun _=>.undef)=(t.map (AV.sub n fun _=>.undef)).set a v:=by
 rw [List.map_set,lose_same n v hv]
theorem z918 {d d':Option Tmp} {e e':Eff} {k k':Option Nat} (hd:∀ t,d=some t→d'≠some t) (hn:∀ n ∈ e.name,n ∉ e'.name) (h1:∀ n,k=some n→n ∉ e'.v.refs∧n ∉ boxE e') (h2:∀ n,k'=some n→n ∉ e.v.refs∧n ∉ boxE e) (h3:k=none∨k'=none) :
  (s.applyA d e k).applyA d' e' k'=(s.applyA d' e' k').applyA d e k:=by
 have key:∀ (s:St) (d d':Option Tmp) (e e':Eff) (n:Nat),(∀ t,d=some t→d'≠some t)→(∀ n ∈ e.name,n ∉ e'.name)→n ∉ e'.v.refs→n ∉ boxE e'→(s.applyA d e (some n)).applyA d' e' none=(s.applyA d' e' none).applyA d e (some n):=by
  intro s d d' e e' n hd hn hv hb
  have e1:(s.applyA d e (some n)).applyA d' e' none=(({ t:=killT (some n) s.t,m:=killM (some n) s.m }:St).apply d e).apply d' e':=rfl
  have e2:(s.applyA d' e' none).applyA d e (some n)=(({ t:=killT (some n) s.t,m:=killM (some n) s.m }:St).apply d' e').apply d e:=by
   have:({ t:=killT (some n) (s.apply d' e').t,m:=killM (some n) (s.apply d' e').m }:St)=({ t:=killT (some n) s.t,m:=killM (some n) s.m }:St).apply d' e':=by
    have ht:killT (some n) (s.apply d' e').t=(({ t:=killT (some n) s.t,m:=killM (some n) s.m }:St).apply d' e').t:=by
     cases d' with
     | none=>rfl
     | some a =>
      simp only [St.apply,St.put,killT]
      rw [z1214 hv]
    have hm:killM (some n) (s.apply d' e').m=(({ t:=killT (some n) s.t,m:=killM (some n) s.m }:St).apply d' e').m:=by
     obtain⟨v',m'⟩:=e'
     cases m' with
     | none=>rfl
     | some nb =>
      obtain⟨q,b⟩:=nb
      simp only [St.apply,killM]
      exact z1014 (by simpa [boxE] using hb)
    rw [ht,hm]
   show ({ t:=killT (some n) (s.apply d' e').t,m:=killM (some n) (s.apply d' e').m }:St).apply d e=_
   rw [this]
  rw [e1,e2]
  exact z292 hd hn
 cases k with
 | none =>
  cases k' with
  | none=>exact z292 hd hn
  | some n=>exact (key s d' d e' e n (fun t h h'=>hd t h' h) (fun a h h'=>hn a h' h) (h2 n rfl).1 (h2 n rfl).2).symm
 | some n =>
  cases k' with
  | none=>exact key s d d' e e' n hd hn (h1 n rfl).1 (h1 n rfl).2
  | some n'=>rcases h3 with h3 | h3 <;> cases h3
def InB (Bf:Nat→List Nat) (Ks:List Nat) (m:List (Option Blk)):Prop:=∀ n ∈ Ks,∀ (i:Nat) b,m[i]?=some (some b)→n ∈ b.names→i ∈ Bf n
def okRec (Bf:Nat→List Nat) (Ks:List Nat) (r:RecA):Prop:=(∀ n,r.k=some n→n ∈ Ks)∧∀ n ∈ boxE r.e,n ∈ Ks→∀ q ∈ r.e.name,q ∈ Bf n
theorem InB.apply {Bf:Nat→List Nat} {Ks:List Nat} (h:InB Bf Ks s.m) {dst:Option Tmp} {e:Eff} {k:Option Nat} (hb:∀ n ∈ boxE e,n ∈ Ks→∀ q ∈ e.name,q ∈ Bf n):InB Bf Ks (s.applyA dst e k).m:=by
 intro n hn i row h1 h2
 obtain⟨v,m⟩:=e
 have old:(killM k s.m)[i]?=some (some row)→i ∈ Bf n:=by
  intro h3
  cases k with
  | none=>exact h n hn i row h3 h2
  | some q =>
   simp only [killM,z36,Option.map_eq_some_iff] at h3
   obtain⟨ob,hob,b,hb1,hb2⟩:=h3
   subst hb1
   subst hb2
   exact h n hn i b hob (Blk.sub_names h2)
 cases m with
 | none=>exact old h1
 | some nb =>
  obtain⟨q,b⟩:=nb
  simp only [St.applyA,St.apply] at h1
  rw [List.getElem?_set] at h1
  split at h1
  ·rename_i hqi
   split at h1
   ·cases h1
    exact hb n (by simpa [boxE] using h2) hn i (by simp [Eff.name,hqi])
   ·cases h1
  ·exact old h1
theorem z176 (s:St) (d:Option Tmp) (e:Eff) (k:Option Nat):(s.applyA d e k).t.length=s.t.length:=by
 cases d <;> cases k <;> simp [St.applyA,St.apply,St.put,killT]
theorem z177 (s:St) (d:Option Tmp) (e:Eff) (k:Option Nat):(s.applyA d e k).m.length=s.m.length:=by
 have h:∀ (f:AV→AV) (n:Nat) (m:List (Option Blk)),(subMem n f m).length=m.length:=by
  intro f n m
  induction m with
  | nil=>rfl
  | cons x xs ih=>cases x <;> simp [subMem,ih]
 have hk:(killM k s.m).length=s.m.length:=by cases k <;> simp [killM,h]
 obtain⟨v,m⟩:=e
 cases m with
 | none=>exact hk
 | some nb=>simp [St.applyA,St.apply,hk]
theorem z1334 {Bf:Nat→List Nat} {Ks:List Nat} {a b:RecA} {s s':St} {rs:List RecA} (hi:indepA ops Bf a.key b.key=true) (hF:InB Bf Ks s.m) (ha:okRec Bf Ks a) (hb:okRec Bf Ks b) (h:ChainA P ops (a::b::rs) s s'):ChainA P ops (b::a::rs) s s':=by
 cases h with
 | cons ho hd h ht =>
 rename_i x
 cases ht with
 | cons ho' hd' h' ht =>
 rename_i y
 simp only [indepA,RecA.key,indepB,ho,ho',Bool.and_eq_true,List.all_eq_true,Bool.not_eq_true',Bool.or_eq_false_iff,List.contains_eq_mem,decide_eq_false_iff_not,Bool.or_eq_true,Option.isNone_iff_eq_none] at hi
 obtain⟨⟨⟨h1,h2⟩,h3⟩,hk1,⟨hk2,hk3⟩,hc1,hc2⟩:=hi
 obtain⟨a1,a2,a3⟩:=Oper.apart_spec h1
 have miss:∀ {k:Option Nat} {R:List Nat},missB k R=true→∀ n,k=some n→n ∉ R:=by
  intro k R hm n hk hn
  subst hk
  simp [missB,hn] at hm
 have clear:∀ {k:Option Nat} {r:RecA},clearB Bf k (r.i,r.e.name,r.N,r.k,r.R,r.u,boxE r.e)=true→∀ n,k=some n→∀ q ∈ Bf n,q ∉ r.N∧q ∉ r.e.name:=by
  intro k r hc n hk q hq
  subst hk
  simp only [clearB,List.all_eq_true,Bool.not_eq_true',Bool.or_eq_false_iff,List.contains_eq_mem,decide_eq_false_iff_not] at hc
  exact hc q hq
 have noBox:∀ {k:Option Nat} {r:RecA},okRec Bf Ks r→(∀ n,k=some n→n ∈ Ks)→clearB Bf k (r.i,r.e.name,r.N,r.k,r.R,r.u,boxE r.e)=true→∀ n,k=some n→n ∉ boxE r.e:=by
  intro k r hr hK hc n hk hn
  have:∃ q,q ∈ r.e.name:=by
   unfold boxE at hn
   split at hn
   ·rename_i q row hq;exact⟨q,by simp [Eff.name,hq]⟩
   ·simp at hn
  obtain⟨q,hq⟩:=this
  exact (clear hc n hk q (hr.2 n hn (hK n hk) q hq)).2 hq
 -- b first
 have hev1:∀ t ∈ y.looksAt ops,(s.applyA x.dst a.e a.k).ev (.tmp t)=s.ev (.tmp t):=by
  intro t ht
  rcases hk1 with hk | ⟨hu,_⟩
  ·exact z389 (fun hd=>a1 t hd ht) (fun n hn=>by rw [hk] at hn;cases hn)
  ·exact z1154 (fun hd=>a1 t hd ht) (h'.whole hu t ht)
 have hm1:Agree b.N (s.applyA x.dst a.e a.k).m s.m:=fun n hn=>z950 (fun hc=>(h2 n hc).1 hn) fun q row hk hrow hq=>(clear hc1 q hk n (hF q (ha.1 q hk) n row hrow hq)).1 hn
 have hbl:LocalA P ops y s b:=⟨h'.loc s hev1 (z176 ..) (z177 ..) hm1,fun s2 he2 htl2 hml2 ha2=>h'.loc s2 (fun t ht=>(hev1 t ht).trans (he2 t ht)) ((z176 ..).trans htl2) ((z177 ..).trans hml2) (fun n hn=>(hm1 n hn).trans (ha2 n hn)),
  fun t ht n hn=>h'.look t ht n (by rw [hev1 t ht];exact hn),fun hu t ht=>by rw [← hev1 t ht];exact h'.whole hu t ht,h'.val⟩
 -- then a
 have hev2:∀ t ∈ x.looksAt ops,s.ev (.tmp t)=(s.applyA y.dst b.e b.k).ev (.tmp t):=fun t ht=>(z389 (fun hd=>a3 t hd ht) (fun n hn hc=>miss hk2 n hn (h.look t ht n hc))).symm
 have hm2:Agree a.N s.m (s.applyA y.dst b.e b.k).m:=fun n hn=>(z950 (fun hc=>(h3 n hc).1 hn) fun q row hk hrow hq=>(clear hc2 q hk n (hF q (hb.1 q hk) n row hrow hq)).1 hn).symm
 have hal:LocalA P ops x (s.applyA y.dst b.e b.k) a:=⟨h.loc _ hev2 (z176 ..).symm (z177 ..).symm hm2,fun s2 he2 htl2 hml2 ha2=>h.loc s2 (fun t ht=>(hev2 t ht).trans (he2 t ht)) ((z176 ..).symm.trans htl2) ((z177 ..).symm.trans hml2) (fun n hn=>(hm2 n hn).trans (ha2 n hn)),
  fun t ht n hn=>h.look t ht n (by rw [hev2 t ht];exact hn),fun hu t ht=>by rw [← hev2 t ht];exact h.whole hu t ht,h.val⟩
 refine .cons ho' hd' hbl (.cons ho hd hal ?_)
 rw [← z918 (fun t hd hd2=>a2 t hd hd2) (fun n hn=>(h2 n hn).2) (fun n hn=>⟨fun hc=>?_,noBox hb ha.1 hc1 n hn⟩) (fun n hn=>⟨fun hc=>miss hk2 n hn (h.val n hc),noBox ha hb.1 hc2 n hn⟩) hk3]
 ·exact ht
 ·rcases hk1 with hk | ⟨_,hk⟩
  ·rw [hk] at hn;cases hn
  ·exact miss hk n hn (h'.val n hc)
theorem z1150 {Bf:Nat→List Nat} {Ks:List Nat} {r:RecA} {B:List RecA} {s':St} (hr:okRec Bf Ks r):∀ (A:List RecA) (s:St),InB Bf Ks s.m→(∀ a ∈ A,okRec Bf Ks a)→(∀ a ∈ A,indepA ops Bf a.key r.key=true)→ChainA P ops (A++r::B) s s'→ChainA P ops (r::(A++B)) s s'
 | [],_,_,_,_,h=>h
 | a::A,s,hF,hA,hi,h=>by
  cases h with
  | cons ho hd h ht =>
  have:=z1150 hr A _ (hF.apply (hA a (by simp)).2) (fun b hb=>hA b (by simp [hb])) (fun b hb=>hi b (by simp [hb])) ht
  exact z1334 (hi a (by simp)) hF (hA a (by simp)) hr (.cons ho hd h this)
def FreeChain (P:Program) (ops:Array Oper) (Bf:Nat→List Nat) (Ks:List Nat) (rs:List RecA) (s s':St):Prop:=InB Bf Ks s.m∧(∀ r ∈ rs,okRec Bf Ks r)∧ChainA P ops rs s s'
def pairsA (ops:Array Oper) (Bf:Nat→List Nat) (ms:List Nat):List KeyA→Bool
 | []=>true
 | a::l=>l.all (fun b=>(ms.getD b.1 0).testBit a.1 || indepA ops Bf a b) && pairsA ops Bf ms l
theorem z360 {Bf:Nat→List Nat} (hm:∀ k i,((masks ops.toList []).getD k 0).testBit i=true→Anc ops i k):∀ {rs:List RecA},pairsA ops Bf (masks ops.toList []) (rs.map RecA.key)=true→rs.Pairwise (fun a b=>Anc ops a.i b.i∨indepA ops Bf a.key b.key=true)
 | [],_=>.nil
 | a::rs,h=>by
  simp only [List.map_cons,pairsA,Bool.and_eq_true,List.all_eq_true,List.mem_map,forall_exists_index,and_imp,forall_apply_eq_imp_iff₂,Bool.or_eq_true] at h
  refine .cons (fun b hb=>?_) (z360 hm h.2)
  rcases h.1 b hb with h1 | h1
  ·exact .inl (hm _ _ h1)
  ·exact .inr h1
def inBoxes (B0:List (Nat × List Nat)) (acc:List KeyA) (n:Nat):List Nat:=(B0.flatMap fun p=>if p.2.contains n then [p.1] else [])++acc.flatMap fun b=>if b.2.2.2.2.2.2.contains n then b.2.1 else []
def killsOf (rs:List RecA):List Nat:=rs.filterMap (·.k)
theorem z712 (rs:List RecA):InB (inBoxes (boxTab s.m 0) (rs.map RecA.key)) (killsOf rs) s.m∧∀ r ∈ rs,okRec (inBoxes (boxTab s.m 0) (rs.map RecA.key)) (killsOf rs) r:=by
 refine⟨fun n _ i row h1 h2=>?_,fun r hr=>⟨fun n hk=>List.mem_filterMap.2 ⟨r,hr,hk⟩,fun n hn _ q hq=>?_⟩⟩
 ·have:=z100 s.m 0 i row n h1 h2
  rw [Nat.zero_add] at this
  refine List.mem_append_left _ (List.mem_flatMap.2 ⟨_,this,?_⟩)
  simp [h2]
 ·refine List.mem_append_right _ (List.mem_flatMap.2 ⟨r.key,List.mem_map.2 ⟨r,hr,rfl⟩,?_⟩)
  simp [RecA.key,hn,hq]
end
def lookRefs (s:St) (ops:Array Oper) (o:Oper):List Nat:=(o.looksAt ops).flatMap fun t=>(s.ev (.tmp t)).refs
def lookWhole (s:St) (ops:Array Oper) (o:Oper):Bool:=(o.looksAt ops).all fun t=>(s.ev (.tmp t)).whole
def relB (rl:List Nat) (dst:Option Tmp):Bool:=match dst with
 | some d=>rl.contains d
 | none=>false
def relE (rl:List Nat) (dst:Option Tmp) (s:St) (r:Eff × Option Nat):Option (Eff × Option Nat):=if relB rl dst=true then (match r,dst with
  | (⟨.own n,some (n',.arr el z rows)⟩,some n''),some d=>match s.m[n]?,s.t[d]? with
   | some _,some _=>if n=n'∧n=n'' then some (⟨.d (.sl rows),some (n,.arr el z [])⟩,some n) else none
   | _,_=>none
  | _,_=>none) else some r
def effA (P:Program) (rl:List Nat) (o:Oper) (s:St) (C:Eff→Option Nat→List Nat→Prop):Prop:=match o.op with
 | .call { callee:=.builtin .append,args,argTypes }=>match argTypes.toList,args.toList with
  | [t,t'],[a,x]=>bindK (appOf P s o.dst t t' (s.ev a) (s.ev x)) fun r=>bindK (relE rl o.dst s r) fun r=>C r.1 r.2 ((s.ev a).refs++(s.ev x).refs++o.dst.toList)
  | _,_=>False
 | .buildSlice t len parts=>if relB rl o.dst=true then (bindK o.dst fun d=>bindK (opBuildSlice P s t len (parts.toList.map fun p=>(p.1,s.ev p.2))) fun b =>
   AV.refsAll (parts.toList.map fun p=>s.ev p.2)=[]∧s.fresh d=true∧match s.t[d]?,b with
    | some _,.arr _ _ rows=>C ⟨.d (.sl rows),none⟩ none [d]
    | _,_=>False) else effK P o s fun e N=>C e none N
 | _=>effK P o s fun e N=>C e none N
def guardRunA (P:Program) (rl:List Nat) (t:AV) (want:Bool) (o:Oper) (s:St) (R:Eff→Option Nat→List Nat→Prop):Prop:=∀ K':Eff→Option Nat→List Nat→Prop,(∀ e k N,R e k N→K' e k N)→guardK t want (effA P rl o s K') (K' ⟨.void,none⟩ none [])
def runA (P:Program) (rl:List Nat) (ops:Array Oper) (B0:List (Nat × List Nat)):List Oper→Nat→List KeyA→St→(St→Prop)→Prop
 | [],_,acc,s,K=>pairsA ops (inBoxes B0 acc.reverse) (masks ops.toList []) acc.reverse=true∧K s
 | o::os,i,acc,s,K=>dstOk o=true∧match guardT ops o with
  | none=>False
  | some none=>effA P rl o s fun e k N=>runA P rl ops B0 os (i + 1) ((i,e.name,N,k,lookRefs s ops o++e.v.refs,lookWhole s ops o,boxE e)::acc) (s.applyA o.dst e k) K
  | some (some (t,want))=>guardRunA P rl (s.ev (.tmp t)) want o s fun e k N=>runA P rl ops B0 os (i + 1) ((i,e.name,N,k,lookRefs s ops o++e.v.refs,lookWhole s ops o,boxE e)::acc) (s.applyA o.dst e k) K
section
variable {P:Program} {rd:Option Nat} {n:Nat} {J:Env} {k:Option Nat} {st:St} {ops:Array Oper} {Q:Exit→Option Nat→St→Prop} {o:Oper} {s:St}
theorem z742 {rl:List Nat} {C:Eff→Option Nat→List Nat→Prop} (h:effA P rl o s C):∃ e k N,(EffA P o s e k∧∀ s':St,(∀ x ∈ o.op.operands,s.ev x=s'.ev x)→s.t.length=s'.t.length→s.m.length=s'.m.length→Agree N s.m s'.m→EffA P o s' e k)∧C e k N:=by
 unfold effA at h
 split at h
 ·rename_i ho
  split at h
  ·rename_i hts hargs
   obtain⟨⟨e,k⟩,h1,⟨e',k'⟩,hr,h3⟩:=h
   have e1:=z91 hts
   have e2:=z91 hargs
   subst e1;subst e2
   unfold relE at hr
   split at hr
   ·split at hr
    ·rename_i n n' el z rows n'' d hrr hdd
     split at hr
     ·rename_i y1 y2 hm ht
      split at hr
      ·rename_i hnn
       obtain⟨rfl,rfl⟩:=hnn
       cases hrr
       cases hr
       have hl:=(List.getElem?_eq_some_iff.1 hm).1
       have hdl:=(List.getElem?_eq_some_iff.1 ht).1
       refine⟨_,_,_,⟨.appR _ _ _ _ d n el z rows hdd hl hdl ho h1,fun s' he htl hml hag=>.appR _ _ _ _ d n el z rows hdd (by rw [← hml];exact hl) (by rw [← htl];exact hdl) ho ?_⟩,h3⟩
       rw [← he _ (by rw [ho];simp [Op.operands,Call.operands]),← he _ (by rw [ho];simp [Op.operands,Call.operands]),← z390 hag]
       exact h1
      ·cases hr
     ·cases hr
    ·cases hr
   ·cases hr
    refine⟨e,k,_,⟨.app _ _ _ _ e k ho h1,fun s' he _ _ hag=>.app _ _ _ _ e k ho ?_⟩,h3⟩
    rw [← he _ (by rw [ho];simp [Op.operands,Call.operands]),← he _ (by rw [ho];simp [Op.operands,Call.operands]),← z390 hag]
    exact h1
  ·exact h.elim
 ·rename_i t len parts ho
  split at h
  ·obtain⟨d,hd,b,hb,hr,hf,h⟩:=h
   split at h
   ·rename_i y e z rows ht
    have hdl:=(List.getElem?_eq_some_iff.1 ht).1
    refine⟨_,_,_,⟨.litD d e z rows t len parts ho hd hf hdl hb hr,fun s' he htl _ hag=>?_⟩,h⟩
    have hev:∀ p ∈ parts.toList,s.ev p.2=s'.ev p.2:=fun p hp=>he p.2 (by rw [ho];simp only [Op.operands,List.mem_toArray,List.mem_map];exact⟨p,hp,rfl⟩)
    have e1:(parts.toList.map fun p=>(p.1,s'.ev p.2))=parts.toList.map fun p=>(p.1,s.ev p.2):=List.map_congr_left fun p hp=>by rw [hev p hp]
    have e2:(parts.toList.map fun p=>s'.ev p.2)=parts.toList.map fun p=>s.ev p.2:=List.map_congr_left fun p hp=>by rw [hev p hp]
    have hps:(parts.toList.map fun p=>(p.1,s.ev p.2)).map (·.2)=parts.toList.map fun p=>s.ev p.2:=by simp [Function.comp_def]
    refine .litD d e z rows t len parts ho hd (by rw [← z131 (hag d (by simp))];exact hf) (by rw [← htl];exact hdl) ?_ (by rw [e2];exact hr)
    rw [e1,← hb]
    unfold opBuildSlice
    rw [hps,hr]
    simp only [z190 (s:=s') (s':=s) hr,St.arrs]
   ·exact h.elim
  ·obtain⟨e,N,h1,h2⟩:=z254 h
   exact⟨e,none,N,⟨.old e h1.1,fun s' he _ _ hag=>.old e (h1.2 s' he hag)⟩,h2⟩
 ·obtain⟨e,N,h1,h2⟩:=z254 h
  exact⟨e,none,N,⟨.old e h1.1,fun s' he _ _ hag=>.old e (h1.2 s' he hag)⟩,h2⟩
theorem z323 {e:Eff} {k:Option Nat} {N:List Nat} {i:Nat} (h1:EffGA P ops o s e k) (h2:∀ s':St,(∀ t ∈ o.looksAt ops,s.ev (.tmp t)=s'.ev (.tmp t))→s.t.length=s'.t.length→s.m.length=s'.m.length→Agree N s.m s'.m→EffGA P ops o s' e k) :
  LocalA P ops o s ⟨i,e,k,N,lookRefs s ops o++e.v.refs,lookWhole s ops o⟩ :=
 ⟨h1,h2,fun t ht n hn=>List.mem_append_left _ (by simp only [lookRefs,List.mem_flatMap];exact⟨t,ht,hn⟩),fun hu t ht=>by simp only [lookWhole,List.all_eq_true] at hu;exact hu t ht,fun n hn=>List.mem_append_right _ hn⟩
theorem z266 {rl:List Nat} {B0:List (Nat × List Nat)}:∀ (os:List Oper) (i:Nat) (acc:List KeyA) (s:St) (K:St→Prop),(∀ j o,os[j]?=some o→ops[i + j]?=some o)→runA P rl ops B0 os i acc s K →
  ∃ rs s',ChainA P ops rs s s'∧rs.map (·.i)=List.range' i os.length∧pairsA ops (inBoxes B0 (acc.reverse++rs.map RecA.key)) (masks ops.toList []) (acc.reverse++rs.map RecA.key)=true∧K s'
 | [],i,acc,s,K,_,h=>⟨[],s,.nil s,rfl,by simpa using h.1,h.2⟩
 | o::os,i,acc,s,K,hos,h=>by
  obtain⟨hd,h⟩:=h
  have hos':∀ j o',os[j]?=some o'→ops[i + 1 + j]?=some o':=fun j o' hj=>by have:=hos (j + 1) o' (by simpa using hj);rwa [show i + 1 + j=i + (j + 1) by omega]
  have ho:ops[i]?=some o:=by simpa using hos 0 o (by simp)
  have fin:∀ (e:Eff) (k:Option Nat) (N:List Nat),LocalA P ops o s ⟨i,e,k,N,lookRefs s ops o++e.v.refs,lookWhole s ops o⟩ →
    (∃ rs s',ChainA P ops rs (s.applyA o.dst e k) s'∧rs.map (·.i)=List.range' (i + 1) os.length∧pairsA ops (inBoxes B0 (((i,e.name,N,k,lookRefs s ops o++e.v.refs,lookWhole s ops o,boxE e)::acc).reverse++rs.map RecA.key)) (masks ops.toList []) (((i,e.name,N,k,lookRefs s ops o++e.v.refs,lookWhole s ops o,boxE e)::acc).reverse++rs.map RecA.key)=true∧K s') →
    ∃ rs s',ChainA P ops rs s s'∧rs.map (·.i)=List.range' i (o::os).length∧pairsA ops (inBoxes B0 (acc.reverse++rs.map RecA.key)) (masks ops.toList []) (acc.reverse++rs.map RecA.key)=true∧K s':=by
   rintro e k N hl ⟨rs,s',h1,h2,h3,h4⟩
   refine⟨⟨i,e,k,N,lookRefs s ops o++e.v.refs,lookWhole s ops o⟩::rs,s',.cons ho hd hl h1,by simp [h2,List.range'_succ],?_,h4⟩
   simpa [RecA.key] using h3
  cases hg:guardT ops o with
  | none=>rw [hg] at h;exact h.elim
  | some g =>
   rw [hg] at h
   cases g with
   | none =>
    obtain⟨e,k,N,⟨h1,h1'⟩,h2⟩:=z742 h
    refine fin e k N (z323 (by simp only [EffGA,hg];exact h1) fun s' he htl hml ha=>?_) (z266 os (i + 1) _ _ K hos' h2)
    simp only [EffGA,hg]
    exact h1' s' (z327 he) htl hml ha
   | some tw =>
    obtain⟨t,want⟩:=tw
    obtain⟨j,hj,ht⟩:=z98 hg
    have hmem:t ∈ o.looksAt ops:=List.mem_append_right _ (by rw [hj];simp [ht])
    have h:=h _ fun e k N hs=>z266 os (i + 1) _ _ K hos' hs
    unfold guardK at h
    split at h
    ·rename_i b hev
     by_cases hb:b=want
     ·obtain⟨e,k,N,⟨h1,h1'⟩,h2⟩:=z742 (h.1 hb)
      refine fin e k N (z323 (by simp only [EffGA,hg];exact .inl ⟨by rw [hev,hb],h1⟩) fun s' he htl hml ha=>?_) h2
      simp only [EffGA,hg]
      exact .inl ⟨by rw [← he t hmem,hev,hb],h1' s' (z327 he) htl hml ha⟩
     ·have hb':b=!want:=by cases b <;> cases want <;> simp_all
      refine fin _ _ _ (z323 (by unfold EffGA;rw [hg];exact .inr ⟨.inl (by rw [hev,hb']),rfl,rfl⟩) fun s' he htl hml ha=>?_) (h.2 hb')
      unfold EffGA;rw [hg]
      exact .inr ⟨.inl (by rw [← he t hmem,hev,hb']),rfl,rfl⟩
    ·rename_i hev
     refine fin _ _ _ (z323 (by unfold EffGA;rw [hg];exact .inr ⟨.inr hev,rfl,rfl⟩) fun s' he htl hml ha=>?_) h
     unfold EffGA;rw [hg]
     exact .inr ⟨.inr (by rw [← he t hmem,hev]),rfl,rfl⟩
    ·exact h.elim
theorem z766 {rl:List Nat} {id:Nat} (hfol:P.follows .mixedOrders=true) (hback:backB ops=true) (h:runA P rl ops (boxTab st.m 0) ops.toList 0 [] st (Q .normal k)):Walk P rd n J (.region id ops true) k st Q:=fun B base out μ tmps w ds _ hst hJ hM=>by
 obtain⟨rs,s',h1,h2,h3,h4⟩:=z266 _ _ _ _ _ (fun j o hj=>by simpa using hj) h
 simp only [List.reverse_nil,List.nil_append] at h3
 have hfree:=z712 (s:=st) rs
 refine z310 (ix:=RecA.i) (I:=fun a b=>indepA ops (inBoxes (boxTab st.m 0) (rs.map RecA.key)) a.key b.key=true) (C:=FreeChain P ops (inBoxes (boxTab st.m 0) (rs.map RecA.key)) (killsOf rs)) (fun s s' h=>by obtain⟨_,_,h⟩:=h;cases h;rfl) ?_ ?_ hfol hback (by rw [h2,List.range_eq_range'];simp)
  (z360 (fun k i=>z121 ops.toList [] (fun k i hk=>by simp at hk) (fun k o hk=>by simpa using hk) k i) h3) ⟨hfree.1,hfree.2,h1⟩ hst fun tmps' μ' w' h5 hk hS=>.step hJ h5 hk hS hM h4
 ·rintro r rs' s s' ⟨hF,hR,hc⟩
  cases hc with
  | cons ho hd hl ht=>exact⟨_,_,ho,hd,hl.eff.step,hF.apply (hR r (by simp)).2,fun q hq=>hR q (by simp [hq]),ht⟩
 ·rintro r B s s' A hA ⟨hF,hR,hc⟩
  refine⟨hF,fun q hq=>hR q ?_,z1150 (hR r (by simp)) A s hF (fun a ha=>hR a (by simp [ha])) hA hc⟩
  simp only [List.mem_cons,List.mem_append] at hq ⊢
  rcases hq with rfl | hq | hq
  ·exact .inr (.inl rfl)
  ·exact .inl hq
  ·exact .inr (.inr hq)
theorem z300 {id:Nat} {cs:List Code} (rl:List Nat) (hfol:P.follows .mixedOrders=true) (hback:backB ops=true) (h:∀ K:St→Prop,(∀ s,WalkL P rd n J cs k s Q→K s)→runA P rl ops (boxTab st.m 0) ops.toList 0 [] st K):WalkL P rd n J (.region id ops true::cs) k st Q :=
 z766 hfol hback (h _ fun _ h=>h)
theorem z595 {id:Nat} {cs:List Code} (hfol:P.follows .mixedOrders=true) (hback:backB ops=true) (h:∀ K:St→Prop,(∀ s,WalkL P rd n J cs k s Q→K s)→runA P [] ops (boxTab st.m 0) ops.toList 0 [] st K):WalkL P rd n J (.region id ops true::cs) k st Q :=
 z300 [] hfol hback h
end
def oldA (C:Eff→Option Nat→List Nat→Prop) (e:Eff) (N:List Nat):Prop:=C e none N
theorem z1279 (P:Program) (rl:List Nat) (o:Oper) (s:St) (C:Eff→Option Nat→List Nat→Prop):effA P rl o s C=(match o.op with
 | .call { callee:=.builtin .append,args,argTypes }=>match argTypes.toList,args.toList with
  | [t,t'],[a,x]=>bindK (appOf P s o.dst t t' (s.ev a) (s.ev x)) fun r=>bindK (relE rl o.dst s r) fun r=>C r.1 r.2 ((s.ev a).refs++(s.ev x).refs++o.dst.toList)
  | _,_=>False
 | .buildSlice t len parts=>if relB rl o.dst=true then (bindK o.dst fun d=>bindK (opBuildSlice P s t len (parts.toList.map fun p=>(p.1,s.ev p.2))) fun b =>
   AV.refsAll (parts.toList.map fun p=>s.ev p.2)=[]∧s.fresh d=true∧match s.t[d]?,b with
    | some _,.arr _ _ rows=>C ⟨.d (.sl rows),none⟩ none [d]
    | _,_=>False) else effK P o s (oldA C)
 | _=>effK P o s (oldA C)):=rfl
theorem z743 {P:Program} {rl:List Nat} {o:Oper} {s:St} {C C':Eff→Option Nat→List Nat→Prop} (h:effA P rl o s C) (hC:∀ e k N,C e k N→C' e k N):effA P rl o s C':=by
 unfold effA at h ⊢
 split
 ·rename_i ho
  simp only [ho] at h
  split at h
  ·obtain⟨r,h1,r',h2,h3⟩:=h
   exact⟨r,h1,r',h2,hC _ _ _ h3⟩
  ·exact h.elim
 ·rename_i ho
  simp only [ho] at h
  split at h
  ·rename_i hr
   rw [if_pos hr]
   obtain⟨d,hd,b,hb,h1,h2,h3⟩:=h
   refine⟨d,hd,b,hb,h1,h2,?_⟩
   split at h3
   ·exact hC _ _ _ h3
   ·exact h3.elim
  ·rename_i hr
   rw [if_neg hr]
   exact z255 h fun e N hc=>hC _ _ _ hc
 ·rename_i hno hno2
  split at h
  ·rename_i ho;exact absurd ho (hno _ _)
  ·rename_i ho;exact absurd ho (hno2 _ _ _)
  ·exact z255 h fun e N hc=>hC _ _ _ hc
theorem z726 (P:Program) (rl:List Nat) (o:Oper) (s:St) (R:Eff→Option Nat→List Nat→Prop):guardRunA P rl (.d (.bool true)) true o s R=effA P rl o s R:=by
 apply propext
 exact⟨fun h=>(h R (fun _ _ _ h=>h)).1 rfl,fun h K' hK=>⟨fun _=>z743 h hK,fun e=>(by cases e)⟩⟩
theorem z729 (P:Program) (rl:List Nat) (o:Oper) (s:St) (R:Eff→Option Nat→List Nat→Prop):guardRunA P rl (.d (.bool false)) false o s R=effA P rl o s R:=by
 apply propext
 exact⟨fun h=>(h R (fun _ _ _ h=>h)).1 rfl,fun h K' hK=>⟨fun _=>z743 h hK,fun e=>(by cases e)⟩⟩
theorem z727 (P:Program) (rl:List Nat) (o:Oper) (s:St) (R:Eff→Option Nat→List Nat→Prop):guardRunA P rl (.d (.bool true)) false o s R=R ⟨.void,none⟩ none []:=by
 apply propext
 exact⟨fun h=>(h R (fun _ _ _ h=>h)).2 rfl,fun h K' hK=>⟨fun e=>(by cases e),fun _=>hK _ _ _ h⟩⟩
theorem z728 (P:Program) (rl:List Nat) (o:Oper) (s:St) (R:Eff→Option Nat→List Nat→Prop):guardRunA P rl (.d (.bool false)) true o s R=R ⟨.void,none⟩ none []:=by
 apply propext
 exact⟨fun h=>(h R (fun _ _ _ h=>h)).2 rfl,fun h K' hK=>⟨fun e=>(by cases e),fun _=>hK _ _ _ h⟩⟩
theorem z450 (P:Program) (rl:List Nat) (want:Bool) (o:Oper) (s:St) (R:Eff→Option Nat→List Nat→Prop):guardRunA P rl .void want o s R=R ⟨.void,none⟩ none []:=by
 apply propext
 exact⟨fun h=>h R (fun _ _ _ h=>h),fun h K' hK=>hK _ _ _ h⟩
def contA (P:Program) (rl:List Nat) (ops:Array Oper) (B0:List (Nat × List Nat)) (os:List Oper) (i:Nat) (acc:List KeyA) (s:St) (o:Oper) (K:St→Prop) (e:Eff) (k:Option Nat) (N:List Nat):Prop :=
 runA P rl ops B0 os (i + 1) ((i,e.name,N,k,lookRefs s ops o++e.v.refs,lookWhole s ops o,boxE e)::acc) (s.applyA o.dst e k) K
theorem z1184 (P:Program) (rl:List Nat) (ops:Array Oper) (B0:List (Nat × List Nat)) (i:Nat) (acc:List KeyA) (s:St) (K:St→Prop):runA P rl ops B0 [] i acc s K=(pairsA ops (inBoxes B0 acc.reverse) (masks ops.toList []) acc.reverse=true∧K s):=rfl
theorem z1096 (P:Program) (rl:List Nat) (ops:Array Oper) (B0:List (Nat × List Nat)) (o:Oper) (os:List Oper) (i:Nat) (acc:List KeyA) (x:AV) (t:List AV) (m:List (Option Blk)) (K:St→Prop):runA P rl ops B0 (o::os) i acc ⟨x::t,m⟩ K=(dstOk o=true∧match guardT ops o with
  | none=>False
  | some none=>effA P rl o ⟨x::t,m⟩ (contA P rl ops B0 os i acc ⟨x::t,m⟩ o K)
  | some (some (t',want))=>guardRunA P rl ((⟨x::t,m⟩:St).ev (.tmp t')) want o ⟨x::t,m⟩ (contA P rl ops B0 os i acc ⟨x::t,m⟩ o K)):=rfl
theorem z1037 (t:List AV):killT none t=t:=rfl
theorem z1036 (n:Nat) (t:List AV):killT (some n) t=t.map (AV.sub n fun _=>.undef):=rfl
theorem z1040 (m:List (Option Blk)):killM none m=m:=rfl
theorem z1039 (n:Nat) (m:List (Option Blk)):killM (some n) m=subMem n (fun _=>.undef) m:=rfl
theorem z1186 (dst:Option Tmp) (s:St) (r:Eff × Option Nat):relE [] dst s r=some r:=by cases dst <;> rfl
theorem z1187 (dst:Option Tmp):relB [] dst=false:=by cases dst <;> rfl
theorem z1098 (rl:List Nat) (d:Tmp):relB rl (some d)=rl.contains d:=rfl
attribute [go_sem] z1186 z1187 z1098 relE List.contains_nil
attribute [go_sem] List.contains_cons z1184 z1096 contA oldA z1279 appOf boxTab z1040 z1039 St.applyA z1037 z1036 z726 z729 z727 z728 z450
theorem CallR.made {P:Program} {st:St} {dst:Option Tmp} {g:FuncId} {xs:List AV} {ds:List DV} {r:AV} {m1:List Blk} (news:List Nat) (hf:FnG P g [] [] (ds.map AV.d) r m1) (hd:reifyAll st xs=some ds) (hn:news.Nodup) (hl:news.length=m1.length)
  (hnew:news.all st.fresh=true) (hx:AV.refsAll xs=[]):CallR P st dst g xs (({ st with m:=putM news (m1.map (Blk.mapN fun i=>news[i]?)) st.m }:St).put dst (r.mapN fun i=>news[i]?)):=by
 obtain⟨h1,h2⟩:=z17 hd
 have:=CallR.gen (dst:=dst) (st:=st) (xs:=xs) [] [] (ds.map AV.d) r m1 [] news [] [] hf (by simpa using hn) rfl (by simpa using hl) (by intro i b h;simp at h) (fun n hn=>z24 (List.all_eq_true.1 hnew n hn)) (by simpa using h1) (fun i x y hi hy=>by
  simp only [List.getElem?_map,Option.map_eq_some_iff] at hy
  obtain⟨d,hy,rfl⟩:=hy
  have h3:=h2 i d hy
  simp only [List.getElem?_map,Option.map_eq_some_iff] at h3
  obtain⟨x',hx',hr⟩:=h3
  rw [hi] at hx'
  cases hx'
  refine .inl ⟨d,rfl,hr,fun n hn=>?_⟩
  have:=z879 hx (List.mem_of_getElem? hi)
  rw [this] at hn
  cases hn) (by simp) (by intro n hn;simp at hn) (by intro i n h;simp at h) (.inl rfl)
 exact this
theorem z582 (l:List Nat) (st:St):Weak st (releaseAll l st):=by
 intro P base out μ tmps w h
 obtain⟨μ',h1,_,_,h2,_⟩:=z60 l st μ h
 exact⟨μ',h1,h2⟩
theorem z159 {P:Program} {rd:Option Nat} {n:Nat} {J:Env} {c:Code} {cs:List Code} {k:Option Nat} {st:St} {Q:Exit→Option Nat→St→Prop} (l:List Nat) (h:WalkL P rd n J (c::cs) k (releaseAll l st) Q):WalkL P rd n J (c::cs) k st Q :=
 z69 (z582 l st) h
theorem CallR.inPlace {P:Program} {st:St} {dst:Option Tmp} {g:FuncId} {xs:List AV} (n:Nat) {b0 b0' b1:Blk} {args:List AV} {r:AV} (hf:FnG P g [b0] [0] args r [b1]) (hn:st.m[n]?=some (some b0')) (hb:b0=b0'.mapN (inv [n])) (hla:xs.length=args.length)
  (ha:∀ (i:Nat) x y,xs[i]?=some x→args[i]?=some y→argG st [n] [] x y):CallR P st dst g xs (({ st with m:=st.m.set n (some (b1.mapN fun i=>[n][i]?)) }:St).put dst (r.mapN fun i=>[n][i]?)):=by
 have:=CallR.gen (dst:=dst) (st:=st) [b0] [0] args r [b1] [n] [] [] [] hf (by simp) rfl rfl (fun i b hi=>by
  cases i with
  | zero=>cases hi;exact⟨n,b0',rfl,hn,hb⟩
  | succ i=>simp at hi) (by simp) hla ha (by simp) (by intro n hn;simp at hn) (fun i k hi _=>by
  cases i with
  | zero=>simp
  | succ i=>simp at hi) (.inl rfl)
 exact this
end Go.Ab
/- Arrays of which the room is asked: full,or with room behind;and arrays with room that settle. -/
namespace Go.Ab
open Go.RowKit
def roomed (len:Nat):AV→AV
 | .own n=>.vc n len
 | .view n off k=>.view n off k
 | .elem n i o=>.elem n i o
 | _=>.undef
def fulled (e:TypeId) (z:Nat) (rows:List (List DV)):AV→AV
 | .own _=>.dfull rows
 | y=>snapLeaf (.arr e z rows) y
def settled (len:Nat):AV→AV
 | .vh n k=>if k=len then .own n else .undef
 | .view n off k=>if off + k≤len then .view n off k else .undef
 | .elem n i o=>.elem n i o
 | _=>.undef
def St.roomed (n:Nat) (st:St):St:=match (st.m[n]?:Option (Option Blk)) with
 | some (some (.arr e z rows))=>{ t:=st.t.map (AV.sub n (Ab.roomed rows.length)),m:=(subMem n (Ab.roomed rows.length) st.m).set n (some (.arrP e z rows)) }
 | _=>st
def St.fulled (n:Nat) (st:St):St:=match (st.m[n]?:Option (Option Blk)) with
 | some (some (.arr e z rows))=>{ t:=st.t.map (AV.sub n (Ab.fulled e z rows)),m:=subMem n (Ab.fulled e z rows) (st.m.set n none) }
 | _=>st
def St.settle (n:Nat) (st:St):St:=match (st.m[n]?:Option (Option Blk)) with
 | some (some (.arrP e z rows))=>{ t:=st.t.map (AV.sub n (settled rows.length)),m:=(subMem n (settled rows.length) st.m).set n (some (.arr e z rows)) }
 | _=>st
section
variable {P:Program} {base:Own} {out:Own} {st st':St} {μ:Pl} {tmps:Array Value} {w w':World}
end
attribute [go_sem] St.roomed St.fulled St.settle roomed fulled settled opSlice3
end Go.Ab
/- The program's type table,as the engine asks for it. -/
namespace Go.Ab
open Go.RowKit Go.Proofs
theorem z1082:tsz Tryz.prog 0=(some 1):=by kernel_rfl
theorem z643:tbytes Tryz.prog 0=(some 0):=by kernel_rfl
theorem z1013:tagg Tryz.prog 0=(some false):=by kernel_rfl
theorem z1081:tsz Tryz.prog 1=(some 1):=by kernel_rfl
theorem z642:tbytes Tryz.prog 1=(some 8):=by kernel_rfl
theorem z1012:tagg Tryz.prog 1=(some false):=by kernel_rfl
theorem z1080:tsz Tryz.prog 2=(some 1):=by kernel_rfl
theorem z641:tbytes Tryz.prog 2=(some 8):=by kernel_rfl
theorem z1011:tagg Tryz.prog 2=(some false):=by kernel_rfl
theorem z1001:tint Tryz.prog 2=(some IntKind.i64):=by kernel_rfl
theorem z1079:tsz Tryz.prog 3=(some 1):=by kernel_rfl
theorem z640:tbytes Tryz.prog 3=(some 8):=by kernel_rfl
theorem z1010:tagg Tryz.prog 3=(some false):=by kernel_rfl
theorem z1000:tint Tryz.prog 3=(some IntKind.i64):=by kernel_rfl
theorem z1078:tsz Tryz.prog 4=(some 1):=by kernel_rfl
theorem z639:tbytes Tryz.prog 4=(some 1):=by kernel_rfl
theorem z1009:tagg Tryz.prog 4=(some false):=by kernel_rfl
theorem z1077:tsz Tryz.prog 5=(some 1):=by kernel_rfl
theorem z638:tbytes Tryz.prog 5=(some 1):=by kernel_rfl
theorem z1008:tagg Tryz.prog 5=(some false):=by kernel_rfl
theorem z999:tint Tryz.prog 5=(some IntKind.u8):=by kernel_rfl
theorem z1076:tsz Tryz.prog 9=(some 1):=by kernel_rfl
theorem z637:tbytes Tryz.prog 9=(some 16):=by kernel_rfl
theorem z1007:tagg Tryz.prog 9=(some false):=by kernel_rfl
theorem z998:tsz Tryz.prog 17=(some 1):=by kernel_rfl
theorem z546:tbytes Tryz.prog 17=(some 8):=by kernel_rfl
theorem z868:tagg Tryz.prog 17=(some false):=by kernel_rfl
theorem z997:tsz Tryz.prog 22=(some 1):=by kernel_rfl
theorem z545:tbytes Tryz.prog 22=(some 24):=by kernel_rfl
theorem z867:tagg Tryz.prog 22=(some false):=by kernel_rfl
theorem z513:tslice Tryz.prog 22=(some 48):=by kernel_rfl
theorem z996:tsz Tryz.prog 24=(some 2):=by kernel_rfl
theorem z544:tbytes Tryz.prog 24=(some 32):=by kernel_rfl
theorem z866:tagg Tryz.prog 24=(some true):=by kernel_rfl
theorem z406:tfields Tryz.prog 24=(some [(0,(1,false)),(1,(1,false))]):=by kernel_rfl
theorem z995:tsz Tryz.prog 26=(some 2):=by kernel_rfl
theorem z543:tbytes Tryz.prog 26=(some 16):=by kernel_rfl
theorem z865:tagg Tryz.prog 26=(some true):=by kernel_rfl
theorem z405:tfields Tryz.prog 26=(some [(0,(1,false)),(1,(1,false))]):=by kernel_rfl
theorem z1006:teq Tryz.prog 26=(some [(0,false),(1,false)]):=by kernel_rfl
theorem z994:tsz Tryz.prog 28=(some 4):=by kernel_rfl
theorem z542:tbytes Tryz.prog 28=(some 32):=by kernel_rfl
theorem z864:tagg Tryz.prog 28=(some true):=by kernel_rfl
theorem z404:tfields Tryz.prog 28=(some [(0,(1,false)),(1,(1,false)),(2,(2,true))]):=by kernel_rfl
theorem z1005:teq Tryz.prog 28=(some [(0,false),(1,false),(2,false),(3,false)]):=by kernel_rfl
theorem z993:tsz Tryz.prog 29=(some 1):=by kernel_rfl
theorem z541:tbytes Tryz.prog 29=(some 24):=by kernel_rfl
theorem z863:tagg Tryz.prog 29=(some false):=by kernel_rfl
theorem z512:tslice Tryz.prog 29=(some 3):=by kernel_rfl
theorem z992:tsz Tryz.prog 30=(some 1):=by kernel_rfl
theorem z540:tbytes Tryz.prog 30=(some 24):=by kernel_rfl
theorem z862:tagg Tryz.prog 30=(some false):=by kernel_rfl
theorem z511:tslice Tryz.prog 30=(some 91):=by kernel_rfl
theorem z991:tsz Tryz.prog 32=(some 7):=by kernel_rfl
theorem z539:tbytes Tryz.prog 32=(some 88):=by kernel_rfl
theorem z861:tagg Tryz.prog 32=(some true):=by kernel_rfl
theorem z403:tfields Tryz.prog 32=(some [(0,(4,true)),(4,(1,false)),(5,(1,false)),(6,(1,false))]):=by kernel_rfl
theorem z990:tsz Tryz.prog 37=(some 1):=by kernel_rfl
theorem z538:tbytes Tryz.prog 37=(some 8):=by kernel_rfl
theorem z860:tagg Tryz.prog 37=(some false):=by kernel_rfl
theorem z834:tint Tryz.prog 37=(some IntKind.i64):=by kernel_rfl
theorem z989:tsz Tryz.prog 40=(some 1):=by kernel_rfl
theorem z537:tbytes Tryz.prog 40=(some 8):=by kernel_rfl
theorem z859:tagg Tryz.prog 40=(some false):=by kernel_rfl
theorem z988:tsz Tryz.prog 41=(some 1):=by kernel_rfl
theorem z536:tbytes Tryz.prog 41=(some 0):=by kernel_rfl
theorem z858:tagg Tryz.prog 41=(some false):=by kernel_rfl
theorem z987:tsz Tryz.prog 42=(some 1):=by kernel_rfl
theorem z535:tbytes Tryz.prog 42=(some 8):=by kernel_rfl
theorem z857:tagg Tryz.prog 42=(some false):=by kernel_rfl
theorem z986:tsz Tryz.prog 46=(some 1):=by kernel_rfl
theorem z534:tbytes Tryz.prog 46=(some 24):=by kernel_rfl
theorem z856:tagg Tryz.prog 46=(some false):=by kernel_rfl
theorem z510:tslice Tryz.prog 46=(some 26):=by kernel_rfl
theorem z985:tsz Tryz.prog 48=(some 8):=by kernel_rfl
theorem z533:tbytes Tryz.prog 48=(some 80):=by kernel_rfl
theorem z855:tagg Tryz.prog 48=(some true):=by kernel_rfl
theorem z402:tfields Tryz.prog 48=(some [(0,(1,false)),(1,(1,false)),(2,(1,false)),(3,(2,true)),(5,(2,true)),(7,(1,false))]):=by kernel_rfl
theorem z984:tsz Tryz.prog 50=(some 1):=by kernel_rfl
theorem z532:tbytes Tryz.prog 50=(some 24):=by kernel_rfl
theorem z854:tagg Tryz.prog 50=(some false):=by kernel_rfl
theorem z509:tslice Tryz.prog 50=(some 100):=by kernel_rfl
theorem z983:tsz Tryz.prog 52=(some 9):=by kernel_rfl
theorem z531:tbytes Tryz.prog 52=(some 88):=by kernel_rfl
theorem z853:tagg Tryz.prog 52=(some true):=by kernel_rfl
theorem z401:tfields Tryz.prog 52=(some [(0,(4,true)),(4,(1,false)),(5,(1,false)),(6,(1,false)),(7,(1,false)),(8,(1,false))]):=by kernel_rfl
theorem z982:tsz Tryz.prog 57=(some 1):=by kernel_rfl
theorem z530:tbytes Tryz.prog 57=(some 8):=by kernel_rfl
theorem z852:tagg Tryz.prog 57=(some false):=by kernel_rfl
theorem z634:tmapK Tryz.prog 57=(some (none,26)):=by kernel_rfl
theorem z981:tsz Tryz.prog 59=(some 3):=by kernel_rfl
theorem z529:tbytes Tryz.prog 59=(some 40):=by kernel_rfl
theorem z851:tagg Tryz.prog 59=(some true):=by kernel_rfl
theorem z400:tfields Tryz.prog 59=(some [(0,(2,true)),(2,(1,false))]):=by kernel_rfl
theorem z980:tsz Tryz.prog 62=(some 1):=by kernel_rfl
theorem z528:tbytes Tryz.prog 62=(some 8):=by kernel_rfl
theorem z850:tagg Tryz.prog 62=(some false):=by kernel_rfl
theorem z979:tsz Tryz.prog 63=(some 1):=by kernel_rfl
theorem z527:tbytes Tryz.prog 63=(some 24):=by kernel_rfl
theorem z849:tagg Tryz.prog 63=(some false):=by kernel_rfl
theorem z508:tslice Tryz.prog 63=(some 29):=by kernel_rfl
theorem z978:tsz Tryz.prog 64=(some 1):=by kernel_rfl
theorem z526:tbytes Tryz.prog 64=(some 8):=by kernel_rfl
theorem z848:tagg Tryz.prog 64=(some false):=by kernel_rfl
theorem z977:tsz Tryz.prog 68=(some 1):=by kernel_rfl
theorem z525:tbytes Tryz.prog 68=(some 8):=by kernel_rfl
theorem z847:tagg Tryz.prog 68=(some false):=by kernel_rfl
theorem z976:tsz Tryz.prog 71=(some 1):=by kernel_rfl
theorem z524:tbytes Tryz.prog 71=(some 8):=by kernel_rfl
theorem z846:tagg Tryz.prog 71=(some false):=by kernel_rfl
theorem z633:tmapK Tryz.prog 71=(some ((some [IntKind.i64,IntKind.u64]),124)):=by kernel_rfl
theorem z975:tsz Tryz.prog 73=(some 2):=by kernel_rfl
theorem z523:tbytes Tryz.prog 73=(some 16):=by kernel_rfl
theorem z845:tagg Tryz.prog 73=(some true):=by kernel_rfl
theorem z399:tfields Tryz.prog 73=(some [(0,(1,false)),(1,(1,false))]):=by kernel_rfl
theorem z974:tsz Tryz.prog 77=(some 1):=by kernel_rfl
theorem z522:tbytes Tryz.prog 77=(some 8):=by kernel_rfl
theorem z844:tagg Tryz.prog 77=(some false):=by kernel_rfl
theorem z833:tint Tryz.prog 77=(some IntKind.u64):=by kernel_rfl
theorem z973:tsz Tryz.prog 84=(some 1):=by kernel_rfl
theorem z521:tbytes Tryz.prog 84=(some 8):=by kernel_rfl
theorem z843:tagg Tryz.prog 84=(some false):=by kernel_rfl
theorem z632:tmapK Tryz.prog 84=(some ((some [IntKind.i64,IntKind.u64]),3)):=by kernel_rfl
theorem z972:tsz Tryz.prog 89=(some 2):=by kernel_rfl
theorem z520:tbytes Tryz.prog 89=(some 16):=by kernel_rfl
theorem z842:tagg Tryz.prog 89=(some true):=by kernel_rfl
theorem z398:tfields Tryz.prog 89=(some [(0,(1,false)),(1,(1,false))]):=by kernel_rfl
theorem z1004:teq Tryz.prog 89=(some [(0,false),(1,false)]):=by kernel_rfl
theorem z971:tsz Tryz.prog 91=(some 3):=by kernel_rfl
theorem z519:tbytes Tryz.prog 91=(some 24):=by kernel_rfl
theorem z841:tagg Tryz.prog 91=(some true):=by kernel_rfl
theorem z397:tfields Tryz.prog 91=(some [(0,(1,false)),(1,(1,false)),(2,(1,false))]):=by kernel_rfl
theorem z1003:teq Tryz.prog 91=(some [(0,false),(1,false),(2,false)]):=by kernel_rfl
theorem z970:tsz Tryz.prog 97=(some 1):=by kernel_rfl
theorem z518:tbytes Tryz.prog 97=(some 0):=by kernel_rfl
theorem z840:tagg Tryz.prog 97=(some false):=by kernel_rfl
theorem z969:tsz Tryz.prog 98=(some 1):=by kernel_rfl
theorem z517:tbytes Tryz.prog 98=(some 8):=by kernel_rfl
theorem z839:tagg Tryz.prog 98=(some false):=by kernel_rfl
theorem z968:tsz Tryz.prog 99=(some 3):=by kernel_rfl
theorem z516:tbytes Tryz.prog 99=(some 24):=by kernel_rfl
theorem z838:tagg Tryz.prog 99=(some true):=by kernel_rfl
theorem z396:tfields Tryz.prog 99=(some [(0,(1,false)),(1,(1,false)),(2,(1,false))]):=by kernel_rfl
theorem z1002:teq Tryz.prog 99=(some [(0,false),(1,false),(2,true)]):=by kernel_rfl
theorem z832:tsz Tryz.prog 100=(some 3):=by kernel_rfl
theorem z439:tbytes Tryz.prog 100=(some 24):=by kernel_rfl
theorem z678:tagg Tryz.prog 100=(some true):=by kernel_rfl
theorem z347:tfields Tryz.prog 100=(some [(0,(1,false)),(1,(1,false)),(2,(1,false))]):=by kernel_rfl
theorem z837:teq Tryz.prog 100=(some [(0,false),(1,false),(2,true)]):=by kernel_rfl
theorem z831:tsz Tryz.prog 101=(some 1):=by kernel_rfl
theorem z438:tbytes Tryz.prog 101=(some 8):=by kernel_rfl
theorem z677:tagg Tryz.prog 101=(some false):=by kernel_rfl
theorem z830:tsz Tryz.prog 102=(some 1):=by kernel_rfl
theorem z437:tbytes Tryz.prog 102=(some 0):=by kernel_rfl
theorem z676:tagg Tryz.prog 102=(some false):=by kernel_rfl
theorem z829:tsz Tryz.prog 103=(some 1):=by kernel_rfl
theorem z436:tbytes Tryz.prog 103=(some 8):=by kernel_rfl
theorem z675:tagg Tryz.prog 103=(some false):=by kernel_rfl
theorem z828:tsz Tryz.prog 104=(some 1):=by kernel_rfl
theorem z435:tbytes Tryz.prog 104=(some 8):=by kernel_rfl
theorem z674:tagg Tryz.prog 104=(some false):=by kernel_rfl
theorem z827:tsz Tryz.prog 105=(some 1):=by kernel_rfl
theorem z434:tbytes Tryz.prog 105=(some 8):=by kernel_rfl
theorem z673:tagg Tryz.prog 105=(some false):=by kernel_rfl
theorem z826:tsz Tryz.prog 108=(some 2):=by kernel_rfl
theorem z433:tbytes Tryz.prog 108=(some 16):=by kernel_rfl
theorem z672:tagg Tryz.prog 108=(some true):=by kernel_rfl
theorem z346:tfields Tryz.prog 108=(some [(0,(1,false)),(1,(1,false))]):=by kernel_rfl
theorem z836:teq Tryz.prog 108=(some [(0,false),(1,false)]):=by kernel_rfl
theorem z825:tsz Tryz.prog 110=(some 4):=by kernel_rfl
theorem z432:tbytes Tryz.prog 110=(some 32):=by kernel_rfl
theorem z671:tagg Tryz.prog 110=(some true):=by kernel_rfl
theorem z345:tfields Tryz.prog 110=(some [(0,(2,true)),(2,(1,false)),(3,(1,false))]):=by kernel_rfl
theorem z835:teq Tryz.prog 110=(some [(0,false),(1,false),(2,false),(3,false)]):=by kernel_rfl
theorem z824:tsz Tryz.prog 111=(some 1):=by kernel_rfl
theorem z431:tbytes Tryz.prog 111=(some 8):=by kernel_rfl
theorem z670:tagg Tryz.prog 111=(some false):=by kernel_rfl
theorem z823:tsz Tryz.prog 114=(some 1):=by kernel_rfl
theorem z430:tbytes Tryz.prog 114=(some 8):=by kernel_rfl
theorem z669:tagg Tryz.prog 114=(some false):=by kernel_rfl
theorem z822:tsz Tryz.prog 115=(some 1):=by kernel_rfl
theorem z429:tbytes Tryz.prog 115=(some 8):=by kernel_rfl
theorem z668:tagg Tryz.prog 115=(some false):=by kernel_rfl
theorem z821:tsz Tryz.prog 116=(some 1):=by kernel_rfl
theorem z428:tbytes Tryz.prog 116=(some 8):=by kernel_rfl
theorem z667:tagg Tryz.prog 116=(some false):=by kernel_rfl
theorem z820:tsz Tryz.prog 117=(some 1):=by kernel_rfl
theorem z427:tbytes Tryz.prog 117=(some 8):=by kernel_rfl
theorem z666:tagg Tryz.prog 117=(some false):=by kernel_rfl
theorem z819:tsz Tryz.prog 118=(some 1):=by kernel_rfl
theorem z426:tbytes Tryz.prog 118=(some 8):=by kernel_rfl
theorem z665:tagg Tryz.prog 118=(some false):=by kernel_rfl
theorem z818:tsz Tryz.prog 119=(some 1):=by kernel_rfl
theorem z425:tbytes Tryz.prog 119=(some 8):=by kernel_rfl
theorem z664:tagg Tryz.prog 119=(some false):=by kernel_rfl
theorem z817:tsz Tryz.prog 120=(some 1):=by kernel_rfl
theorem z424:tbytes Tryz.prog 120=(some 8):=by kernel_rfl
theorem z663:tagg Tryz.prog 120=(some false):=by kernel_rfl
theorem z816:tsz Tryz.prog 123=(some 5):=by kernel_rfl
theorem z423:tbytes Tryz.prog 123=(some 88):=by kernel_rfl
theorem z662:tagg Tryz.prog 123=(some true):=by kernel_rfl
theorem z344:tfields Tryz.prog 123=(some [(0,(3,true)),(3,(1,false)),(4,(1,false))]):=by kernel_rfl
theorem z815:tsz Tryz.prog 124=(some 2):=by kernel_rfl
theorem z422:tbytes Tryz.prog 124=(some 16):=by kernel_rfl
theorem z661:tagg Tryz.prog 124=(some true):=by kernel_rfl
theorem z645:tarr Tryz.prog 124=(some 2):=by kernel_rfl
theorem z548:tslice Tryz.prog 124=none:=by kernel_rfl
theorem z814:tsz Tryz.prog 127=(some 1):=by kernel_rfl
theorem z421:tbytes Tryz.prog 127=(some 8):=by kernel_rfl
theorem z660:tagg Tryz.prog 127=(some false):=by kernel_rfl
theorem z813:tsz Tryz.prog 130=(some 12):=by kernel_rfl
theorem z420:tbytes Tryz.prog 130=(some 128):=by kernel_rfl
theorem z659:tagg Tryz.prog 130=(some true):=by kernel_rfl
theorem z343:tfields Tryz.prog 130=(some [(0,(3,true)),(3,(9,true))]):=by kernel_rfl
theorem z812:tsz Tryz.prog 131=(some 1):=by kernel_rfl
theorem z419:tbytes Tryz.prog 131=(some 8):=by kernel_rfl
theorem z658:tagg Tryz.prog 131=(some false):=by kernel_rfl
theorem z515:tmapK Tryz.prog 131=(some ((some [IntKind.i64,IntKind.i64]),110)):=by kernel_rfl
theorem z811:tsz Tryz.prog 132=(some 1):=by kernel_rfl
theorem z418:tbytes Tryz.prog 132=(some 24):=by kernel_rfl
theorem z657:tagg Tryz.prog 132=(some false):=by kernel_rfl
theorem z395:tslice Tryz.prog 132=(some 108):=by kernel_rfl
theorem z810:tsz Tryz.prog 134=(some 3):=by kernel_rfl
theorem z417:tbytes Tryz.prog 134=(some 40):=by kernel_rfl
theorem z656:tagg Tryz.prog 134=(some true):=by kernel_rfl
theorem z342:tfields Tryz.prog 134=(some [(0,(1,false)),(1,(1,false)),(2,(1,false))]):=by kernel_rfl
theorem z809:tsz Tryz.prog 136=(some 1):=by kernel_rfl
theorem z416:tbytes Tryz.prog 136=(some 8):=by kernel_rfl
theorem z655:tagg Tryz.prog 136=(some false):=by kernel_rfl
theorem z514:tmapK Tryz.prog 136=(some ((some [IntKind.i64,IntKind.i64]),3)):=by kernel_rfl
theorem z808:tsz Tryz.prog 141=(some 1):=by kernel_rfl
theorem z415:tbytes Tryz.prog 141=(some 8):=by kernel_rfl
theorem z654:tagg Tryz.prog 141=(some false):=by kernel_rfl
theorem z807:tsz Tryz.prog 142=(some 1):=by kernel_rfl
theorem z414:tbytes Tryz.prog 142=(some 8):=by kernel_rfl
theorem z653:tagg Tryz.prog 142=(some false):=by kernel_rfl
theorem z806:tsz Tryz.prog 144=(some 1):=by kernel_rfl
theorem z413:tbytes Tryz.prog 144=(some 8):=by kernel_rfl
theorem z652:tagg Tryz.prog 144=(some false):=by kernel_rfl
theorem z805:tsz Tryz.prog 147=(some 6):=by kernel_rfl
theorem z412:tbytes Tryz.prog 147=(some 64):=by kernel_rfl
theorem z651:tagg Tryz.prog 147=(some true):=by kernel_rfl
theorem z341:tfields Tryz.prog 147=(some [(0,(2,true)),(2,(4,true))]):=by kernel_rfl
theorem z804:tsz Tryz.prog 151=(some 2):=by kernel_rfl
theorem z411:tbytes Tryz.prog 151=(some 48):=by kernel_rfl
theorem z650:tagg Tryz.prog 151=(some true):=by kernel_rfl
theorem z340:tfields Tryz.prog 151=(some [(0,(1,false)),(1,(1,false))]):=by kernel_rfl
theorem z803:tsz Tryz.prog 153=(some 1):=by kernel_rfl
theorem z410:tbytes Tryz.prog 153=(some 8):=by kernel_rfl
theorem z649:tagg Tryz.prog 153=(some false):=by kernel_rfl
theorem z802:tsz Tryz.prog 162=(some 1):=by kernel_rfl
theorem z409:tbytes Tryz.prog 162=(some 4):=by kernel_rfl
theorem z648:tagg Tryz.prog 162=(some false):=by kernel_rfl
theorem z636:tint Tryz.prog 162=(some IntKind.u32):=by kernel_rfl
theorem z801:tsz Tryz.prog 164=(some 1):=by kernel_rfl
theorem z408:tbytes Tryz.prog 164=(some 8):=by kernel_rfl
theorem z647:tagg Tryz.prog 164=(some false):=by kernel_rfl
theorem z635:tint Tryz.prog 164=(some IntKind.u64):=by kernel_rfl
theorem z800:tsz Tryz.prog 178=(some 64):=by kernel_rfl
theorem z407:tbytes Tryz.prog 178=(some 64):=by kernel_rfl
theorem z646:tagg Tryz.prog 178=(some true):=by kernel_rfl
theorem z644:tarr Tryz.prog 178=(some 64):=by kernel_rfl
theorem z547:tslice Tryz.prog 178=none:=by kernel_rfl
theorem z967:tzero Tryz.prog 1=some Value.nilFunc:=by kernel_rfl
theorem z966:tzero Tryz.prog 2=some (Value.int IntKind.i64 0):=by kernel_rfl
theorem z965:tzero Tryz.prog 3=some (Value.int IntKind.i64 0):=by kernel_rfl
theorem z964:tzero Tryz.prog 4=some (Value.bool false):=by kernel_rfl
theorem z963:tzero Tryz.prog 5=some (Value.int IntKind.u8 0):=by kernel_rfl
theorem z799:tzero Tryz.prog 17=some (Value.pointer none):=by kernel_rfl
theorem z798:tzero Tryz.prog 22=some (Value.slice none 0 0):=by kernel_rfl
theorem z797:tzero Tryz.prog 24=some (Value.agg #[Value.int IntKind.i64 0,Value.slice none 0 0]):=by kernel_rfl
theorem z796:tzero Tryz.prog 26=some (Value.agg #[Value.int IntKind.i64 0,Value.int IntKind.i64 0]):=by kernel_rfl
theorem z795:tzero Tryz.prog 28=some (Value.agg #[Value.int IntKind.i64 0,Value.int IntKind.i64 0,Value.int IntKind.i64 0,Value.int IntKind.i64 0]):=by kernel_rfl
theorem z794:tzero Tryz.prog 29=some (Value.slice none 0 0):=by kernel_rfl
theorem z793:tzero Tryz.prog 30=some (Value.slice none 0 0):=by kernel_rfl
theorem z792:tzero Tryz.prog 32=some (Value.agg #[Value.int IntKind.i64 0,Value.int IntKind.i64 0,Value.int IntKind.i64 0,Value.int IntKind.i64 0,Value.slice none 0 0,Value.slice none 0 0,Value.int IntKind.i64 0]):=by kernel_rfl
theorem z791:tzero Tryz.prog 37=some (Value.int IntKind.i64 0):=by kernel_rfl
theorem z790:tzero Tryz.prog 40=some Value.nilFunc:=by kernel_rfl
theorem z789:tzero Tryz.prog 42=some Value.nilFunc:=by kernel_rfl
theorem z788:tzero Tryz.prog 46=some (Value.slice none 0 0):=by kernel_rfl
theorem z787:tzero Tryz.prog 48=some (Value.agg #[Value.int IntKind.i64 0,Value.int IntKind.i64 0,Value.int IntKind.i64 0,Value.int IntKind.i64 0,Value.int IntKind.i64 0,Value.int IntKind.i64 0,Value.int IntKind.i64 0,Value.slice none 0 0]):=by kernel_rfl
theorem z786:tzero Tryz.prog 50=some (Value.slice none 0 0):=by kernel_rfl
theorem z785:tzero Tryz.prog 52=some (Value.agg #[Value.int IntKind.i64 0,Value.int IntKind.i64 0,Value.int IntKind.i64 0,Value.int IntKind.i64 0,Value.int IntKind.i64 0,Value.int IntKind.i64 0,Value.int IntKind.i64 0,Value.int IntKind.i64 0,Value.slice none 0 0]):=by kernel_rfl
theorem z784:tzero Tryz.prog 57=some (Value.map none):=by kernel_rfl
theorem z783:tzero Tryz.prog 59=some (Value.agg #[Value.int IntKind.i64 0,Value.slice none 0 0,Value.map none]):=by kernel_rfl
theorem z782:tzero Tryz.prog 62=some Value.nilFunc:=by kernel_rfl
theorem z781:tzero Tryz.prog 63=some (Value.slice none 0 0):=by kernel_rfl
theorem z780:tzero Tryz.prog 64=some Value.nilFunc:=by kernel_rfl
theorem z779:tzero Tryz.prog 68=some (Value.pointer none):=by kernel_rfl
theorem z778:tzero Tryz.prog 71=some (Value.map none):=by kernel_rfl
theorem z777:tzero Tryz.prog 73=some (Value.agg #[Value.pointer none,Value.map none]):=by kernel_rfl
theorem z776:tzero Tryz.prog 77=some (Value.int IntKind.u64 0):=by kernel_rfl
theorem z775:tzero Tryz.prog 84=some (Value.map none):=by kernel_rfl
theorem z774:tzero Tryz.prog 89=some (Value.agg #[Value.int IntKind.i64 0,Value.int IntKind.u64 0]):=by kernel_rfl
theorem z773:tzero Tryz.prog 91=some (Value.agg #[Value.int IntKind.i64 0,Value.int IntKind.i64 0,Value.int IntKind.i64 0]):=by kernel_rfl
theorem z772:tzero Tryz.prog 98=some Value.nilFunc:=by kernel_rfl
theorem z771:tzero Tryz.prog 99=some (Value.agg #[Value.int IntKind.i64 0,Value.int IntKind.i64 0,Value.bool false]):=by kernel_rfl
theorem z631:tzero Tryz.prog 100=some (Value.agg #[Value.int IntKind.i64 0,Value.int IntKind.i64 0,Value.bool false]):=by kernel_rfl
theorem z630:tzero Tryz.prog 101=some (Value.pointer none):=by kernel_rfl
theorem z629:tzero Tryz.prog 103=some Value.nilFunc:=by kernel_rfl
theorem z628:tzero Tryz.prog 104=some Value.nilFunc:=by kernel_rfl
theorem z627:tzero Tryz.prog 105=some (Value.pointer none):=by kernel_rfl
theorem z626:tzero Tryz.prog 108=some (Value.agg #[Value.int IntKind.i64 0,Value.int IntKind.i64 0]):=by kernel_rfl
theorem z625:tzero Tryz.prog 110=some (Value.agg #[Value.int IntKind.i64 0,Value.int IntKind.i64 0,Value.int IntKind.i64 0,Value.int IntKind.i64 0]):=by kernel_rfl
theorem z624:tzero Tryz.prog 111=some Value.nilFunc:=by kernel_rfl
theorem z623:tzero Tryz.prog 114=some Value.nilFunc:=by kernel_rfl
theorem z622:tzero Tryz.prog 115=some Value.nilFunc:=by kernel_rfl
theorem z621:tzero Tryz.prog 116=some (Value.pointer none):=by kernel_rfl
theorem z620:tzero Tryz.prog 117=some Value.nilFunc:=by kernel_rfl
theorem z619:tzero Tryz.prog 118=some Value.nilFunc:=by kernel_rfl
theorem z618:tzero Tryz.prog 119=some Value.nilFunc:=by kernel_rfl
theorem z617:tzero Tryz.prog 120=some Value.nilFunc:=by kernel_rfl
theorem z616:tzero Tryz.prog 123=some (Value.agg #[Value.int IntKind.i64 0,Value.slice none 0 0,Value.map none,Value.slice none 0 0,Value.slice none 0 0]):=by kernel_rfl
theorem z615:tzero Tryz.prog 124=some (Value.agg #[Value.int IntKind.i64 0,Value.int IntKind.i64 0]):=by kernel_rfl
theorem z614:tzero Tryz.prog 127=some Value.nilFunc:=by kernel_rfl
theorem z613:tzero Tryz.prog 130=some (Value.agg #[Value.int IntKind.i64 0,Value.slice none 0 0,Value.map none,Value.int IntKind.i64 0,Value.int IntKind.i64 0,Value.int IntKind.i64 0,Value.int IntKind.i64 0,Value.int IntKind.i64 0,Value.int IntKind.i64 0,Value.int IntKind.i64 0,Value.int IntKind.i64 0,Value.slice none 0 0]):=by kernel_rfl
theorem z612:tzero Tryz.prog 131=some (Value.map none):=by kernel_rfl
theorem z611:tzero Tryz.prog 132=some (Value.slice none 0 0):=by kernel_rfl
theorem z610:tzero Tryz.prog 134=some (Value.agg #[Value.pointer none,Value.map none,Value.slice none 0 0]):=by kernel_rfl
theorem z609:tzero Tryz.prog 136=some (Value.map none):=by kernel_rfl
theorem z608:tzero Tryz.prog 141=some Value.nilFunc:=by kernel_rfl
theorem z607:tzero Tryz.prog 142=some Value.nilFunc:=by kernel_rfl
theorem z606:tzero Tryz.prog 144=some Value.nilFunc:=by kernel_rfl
theorem z605:tzero Tryz.prog 147=some (Value.agg #[Value.int IntKind.i64 0,Value.slice none 0 0,Value.int IntKind.i64 0,Value.int IntKind.i64 0,Value.int IntKind.i64 0,Value.int IntKind.i64 0]):=by kernel_rfl
theorem z604:tzero Tryz.prog 151=some (Value.agg #[Value.slice none 0 0,Value.slice none 0 0]):=by kernel_rfl
theorem z603:tzero Tryz.prog 153=some Value.nilFunc:=by kernel_rfl
theorem z602:tzero Tryz.prog 162=some (Value.int IntKind.u32 0):=by kernel_rfl
theorem z601:tzero Tryz.prog 164=some (Value.int IntKind.u64 0):=by kernel_rfl
attribute [go_sem] z1082 z643 z1013 z1081 z642 z1012 z1080 z641 z1011 z1001 z1079 z640 z1010 z1000 z1078 z639 z1009 z1077 z638 z1008 z999 z1076 z637 z1007 z998 z546 z868 z997 z545 z867 z513 z996 z544 z866 z406 z995 z543 z865 z405 z1006 z994 z542 z864 z404 z1005 z993 z541 z863 z512 z992 z540 z862 z511 z991 z539 z861 z403 z990 z538 z860 z834 z989 z537 z859 z988 z536 z858 z987 z535 z857 z986 z534 z856 z510 z985 z533 z855 z402 z984 z532 z854 z509 z983 z531 z853 z401 z982 z530 z852 z634 z981 z529 z851 z400 z980 z528 z850 z979 z527 z849 z508 z978 z526 z848 z977 z525 z847 z976 z524 z846 z633 z975 z523 z845 z399 z974 z522 z844 z833 z973 z521 z843 z632 z972 z520 z842 z398 z1004 z971 z519 z841 z397 z1003 z970 z518 z840 z969 z517 z839 z968 z516 z838 z396 z1002 z832 z439 z678 z347 z837 z831 z438 z677 z830 z437 z676 z829 z436 z675 z828 z435 z674 z827 z434 z673 z826 z433 z672 z346 z836 z825 z432 z671 z345 z835 z824 z431 z670 z823 z430 z669 z822 z429 z668 z821 z428 z667 z820 z427 z666 z819 z426 z665 z818 z425 z664 z817 z424 z663 z816 z423 z662 z344 z815 z422 z661 z645 z548 z814 z421 z660 z813 z420 z659 z343 z812 z419 z658 z515 z811 z418 z657 z395 z810 z417 z656 z342 z809 z416 z655 z514 z808 z415 z654 z807 z414 z653 z806 z413 z652 z805 z412 z651 z341 z804 z411 z650 z340 z803 z410 z649 z802 z409 z648 z636 z801 z408 z647 z635 z800 z407 z646 z644 z547 z967 z966 z965 z964 z963 z799 z798 z797 z796 z795 z794 z793 z792 z791 z790 z789 z788 z787 z786 z785 z784 z783 z782 z781 z780 z779 z778 z777 z776 z775 z774 z773 z772 z771 z631 z630 z629 z628 z627 z626 z625 z624 z623 z622 z621 z620 z619 z618 z617 z616 z615 z614 z613 z612 z611 z610 z609 z608 z607 z606 z605 z604 z603 z602 z601 Tryz.underlying2 Tryz.underlying3 Tryz.underlying4 Tryz.underlying5 Tryz.underlying17 Tryz.underlying37 Tryz.underlying68 Tryz.underlying77 Tryz.underlying101 Tryz.underlying105 Tryz.underlying116 Tryz.underlying162 Tryz.underlying164
theorem weA {st st':St} (h1:lessT [] st.t st'.t) (h2:lessM [] 0 st.m st'.m) (h3:st'.t.all (liveB st'.m)=true:=by rfl) (h4:liveM st'.m st'.m=true:=by rfl):Weak st st':=z32 [] h1 h2 h3 h4
attribute [simp] lessT lessM lessB AV.less
end Go.Ab
namespace Go.Ab
open Go.RowKit Go.Proofs
structure Span where
 lo:Int
 hi:Int
structure Path where
 frm:Int
 to:Int
 grade:Int
 time:Span
 snow:Span
 opens:List Span
structure Net where
 places:Int
 paths:List Path
structure Party where
 grade:Int
 load:Int
 pace:Span
def Span.row (s:Span):List DV:=[.i s.lo,.i s.hi]
def Path.row (p:Path):List DV:=[.i p.frm,.i p.to,.i p.grade,.i p.time.lo,.i p.time.hi,.i p.snow.lo,.i p.snow.hi,.sl (p.opens.map Span.row)]
def Net.cells (n:Net):List DV:=[.i n.places,.sl (n.paths.map Path.row)]
def Party.cells (p:Party):List DV:=[.i p.grade,.i p.load,.i p.pace.lo,.i p.pace.hi]
def walkCells (n:Net) (p:Party):List DV:=[.i n.places,.sl (n.paths.map Path.row),.i p.grade,.i p.load,.i p.pace.lo,.i p.pace.hi]
abbrev wr (x:Int):Int:=IntKind.i64.wrap x
def timeW (t pace snow load:Int):Int:=wr ((wr (wr (wr (t * pace) * wr (wr (100 + wr (5 * snow)) + load)) + 9999)).tdiv 10000)
theorem z28 {α β:Type} (f:β→α→β) (b:β) (l:List α) (i:Nat) (x:α) (h:l[i]?=some x):(l.take (i + 1)).foldl f b=f ((l.take i).foldl f b) x:=by
 rw [List.take_add_one,h];simp
theorem z9 {x:Int} (h:-(2 ^ 63)≤x∧x<2 ^ 63):IntKind.i64.wrap x=x:=by
 rw [IntKind.wrap_i64];omega
def withinB (n lo hi:Int):Bool:=decide (lo≤n) && decide (n≤hi)
def orderedB (s:Span) (lo hi:Int):Bool:=decide (lo≤s.lo) && (decide (s.lo≤s.hi) && decide (s.hi≤hi))
theorem z1059 (n lo hi:Int):Fn Tryz.prog 67 [.i n,.i lo,.i hi] (.bool (withinB n lo hi)):=by
 refine z10 15 Tryz.call67 Tryz.func67 rfl (by decide) fun J=>?_
 simp only [go_sem,St.start,Tryz.ntmps67,Tryz.results67]
 by_cases h:lo≤n
 ·repeat (first|refine nx ?_|(refine z3 fun K hK=>?_;simp only [go_sem,h];apply hK;clear hK K))
  simp only [go_sem,withinB,h]
 ·repeat (first|refine nx ?_|(refine z3 fun K hK=>?_;simp only [go_sem,h];apply hK;clear hK K))
  simp only [go_sem,withinB,h]
theorem z1240 (n lo hi:Int):Fn Tryz.prog 40 [.i n,.i lo,.i hi] (.bool (withinB n lo hi)):=by
 refine z10 15 Tryz.call40 Tryz.func40 rfl (by decide) fun J=>?_
 simp only [go_sem,St.start,Tryz.ntmps40,Tryz.results40]
 by_cases h:lo≤n
 ·repeat (first|refine nx ?_|(refine z3 fun K hK=>?_;simp only [go_sem,h,ge_iff_le];apply hK;clear hK K))
  simp only [go_sem,withinB,h]
 ·repeat (first|refine nx ?_|(refine z3 fun K hK=>?_;simp only [go_sem,h,ge_iff_le];apply hK;clear hK K))
  simp only [go_sem,withinB,h]
theorem z1283 (s:Span) (lo hi:Int):Fn Tryz.prog 69 [.agg s.row,.i lo,.i hi] (.bool (orderedB s lo hi)):=by
 refine z10 24 Tryz.call69 Tryz.func69 rfl (by decide) fun J=>?_
 simp only [go_sem,St.start,Tryz.ntmps69,Tryz.results69,Span.row]
 by_cases h:lo≤s.lo <;> by_cases h2:s.lo≤s.hi
 all_goals
  repeat (first|refine nx ?_|(refine z3 fun K hK=>?_;simp only [go_sem,h,h2];apply hK;clear hK K))
  simp only [go_sem,orderedB,h,h2]
theorem z1284 (s:Span) (lo hi:Int):Fn Tryz.prog 41 [.agg s.row,.i lo,.i hi] (.bool (orderedB s lo hi)):=by
 refine z10 24 Tryz.call41 Tryz.func41 rfl (by decide) fun J=>?_
 simp only [go_sem,St.start,Tryz.ntmps41,Tryz.results41,Span.row]
 by_cases h:lo≤s.lo <;> by_cases h2:s.lo≤s.hi
 all_goals
  repeat (first|refine nx ?_|(refine z3 fun K hK=>?_;simp only [go_sem,h,h2,ge_iff_le];apply hK;clear hK K))
  simp only [go_sem,orderedB,h,h2]
theorem z1365 (n:Net) (x:Int) (hn:0≤n.places∧n.places<2 ^ 62):Fn Tryz.prog 66 [.i x,.ptr n.cells 0] (.bool (withinB x 0 (n.places - 1))):=by
 refine z10 9 Tryz.call66 Tryz.func66 rfl (by decide) fun J=>?_
 simp only [go_sem,St.start,Tryz.ntmps66,Tryz.results66,Net.cells]
 have hw:IntKind.i64.wrap (n.places - 1)=n.places - 1:=z9 (by omega)
 repeat (first|refine nx ?_|(refine z3 fun K hK=>?_;simp only [go_sem,hw];(repeat (first|(refine⟨_,.lent (hf:=z1059 _ _ _) (hd:=rfl) (hr:=rfl),?_⟩;simp only [go_sem,hw])|(refine⟨_,.given (hf:=z1059 _ _ _) (hd:=rfl) (ha:=rfl),?_⟩;simp only [go_sem,hw])));apply hK;clear hK K))
 simp only [go_sem]
theorem z1316 (n:Net) (x:Int) (hn:-(2 ^ 62)≤n.places∧n.places<2 ^ 62):Fn Tryz.prog 23 [.agg n.cells,.i x] (.bool (withinB x 0 (n.places - 1))):=by
 refine z10 10 Tryz.call23 Tryz.func23 rfl (by decide) fun J=>?_
 simp only [go_sem,St.start,Tryz.ntmps23,Tryz.results23,Net.cells]
 have hw:IntKind.i64.wrap (n.places - 1)=n.places - 1:=z9 (by omega)
 repeat (first|refine nx ?_|(refine z3 fun K hK=>?_;simp only [go_sem,hw];(repeat (first|(refine⟨_,.lent (hf:=z1240 _ _ _) (hd:=rfl) (hr:=rfl),?_⟩;simp only [go_sem,hw])|(refine⟨_,.given (hf:=z1240 _ _ _) (hd:=rfl) (ha:=rfl),?_⟩;simp only [go_sem,hw])));apply hK;clear hK K))
 simp only [go_sem]
theorem z1408 (x:Int):Fn Tryz.prog 36 [.i x] (.bool (withinB x 0 2880)):=by
 refine z10 5 Tryz.call36 Tryz.func36 rfl (by decide) fun J=>?_
 simp only [go_sem,St.start,Tryz.ntmps36,Tryz.results36]
 repeat (first|refine nx ?_|(refine z3 fun K hK=>?_;simp only [go_sem];(repeat (first|(refine⟨_,.lent (hf:=z1240 _ _ _) (hd:=rfl) (hr:=rfl),?_⟩;simp only [go_sem])|(refine⟨_,.given (hf:=z1240 _ _ _) (hd:=rfl) (ha:=rfl),?_⟩;simp only [go_sem])));apply hK;clear hK K))
 simp only [go_sem]
theorem z1395 (s:Span) (n:DV):Fn Tryz.prog 68 [.agg s.row] (.bool (!orderedB s 0 2880)):=by
 refine z10 6 Tryz.call68 Tryz.func68 rfl (by decide) fun J=>?_
 simp only [go_sem,St.start,Tryz.ntmps68,Tryz.results68,Span.row]
 repeat (first|refine nx ?_|(refine z3 fun K hK=>?_;simp only [go_sem];(repeat (first|(refine⟨_,.lent (hf:=z1283 s _ _) (hd:=rfl) (hr:=rfl),?_⟩;simp only [go_sem])|(refine⟨_,.given (hf:=z1283 s _ _) (hd:=rfl) (ha:=rfl),?_⟩;simp only [go_sem])));apply hK;clear hK K))
 simp only [go_sem]
theorem z1390 (s:Span):Fn Tryz.prog 76 [.agg s.row] (.i s.hi):=by
 refine z10 5 Tryz.call76 Tryz.func76 rfl (by decide) fun J=>?_
 simp only [go_sem,St.start,Tryz.ntmps76,Tryz.results76,Span.row]
 repeat (first|refine nx ?_|(refine z3 fun K hK=>?_;simp only [go_sem];apply hK;clear hK K))
 simp only [go_sem]
theorem z1389 (s:Span):Fn Tryz.prog 77 [.agg s.row] (.i s.lo):=by
 refine z10 5 Tryz.call77 Tryz.func77 rfl (by decide) fun J=>?_
 simp only [go_sem,St.start,Tryz.ntmps77,Tryz.results77,Span.row]
 repeat (first|refine nx ?_|(refine z3 fun K hK=>?_;simp only [go_sem];apply hK;clear hK K))
 simp only [go_sem]
theorem z1368 (lo hi:Int):Fn Tryz.prog 60 [.i lo,.i hi] (.agg [.i lo,.i hi]):=by
 refine z10 8 Tryz.call60 Tryz.func60 rfl (by decide) fun J=>?_
 simp only [go_sem,St.start,Tryz.ntmps60,Tryz.results60]
 repeat (first|refine nx ?_|(refine z3 fun K hK=>?_;simp only [go_sem];apply hK;clear hK K))
 simp only [go_sem]
theorem z1402 (n:Net) (p:Party) (i:Nat) (x:Path) (hx:n.paths[i]?=some x):Fn Tryz.prog 51 [.agg n.cells,.agg p.cells,.i i] (.bool (decide (x.grade≤p.grade))):=by
 refine z10 16 Tryz.call51 Tryz.func51 rfl (by decide) fun J=>?_
 simp only [go_sem,St.start,Tryz.ntmps51,Tryz.results51,Net.cells,Party.cells]
 repeat (first|refine nx ?_|(refine z3 fun K hK=>?_;simp only [go_sem,hx,List.getElem?_map,Path.row];apply hK;clear hK K)|(refine z7 (by kernel_rfl) (by kernel_rfl) fun K hK=>?_;simp only [go_sem,hx,List.getElem?_map,Path.row];refine⟨by kernel_rfl,hK _ ?_⟩;clear hK K))
 simp only [go_sem]
theorem z1361 (n:Net) (p:Party) (i:Nat) (x:Path) (hx:n.paths[i]?=some x):Fn Tryz.prog 79 [.agg (walkCells n p),.i i] (.bool (decide (x.grade≤p.grade))):=by
 refine z10 16 Tryz.call79 Tryz.func79 rfl (by decide) fun J=>?_
 simp only [go_sem,St.start,Tryz.ntmps79,Tryz.results79,walkCells]
 repeat (first|refine nx ?_|(refine z3 fun K hK=>?_;simp only [go_sem,hx,List.getElem?_map,Path.row];apply hK;clear hK K)|(refine z7 (by kernel_rfl) (by kernel_rfl) fun K hK=>?_;simp only [go_sem,hx,List.getElem?_map,Path.row];refine⟨by kernel_rfl,hK _ ?_⟩;clear hK K))
 simp only [go_sem]
theorem z1319 (t pace snow:Int) (n:Net) (p:Party):Fn Tryz.prog 98 [.i t,.i pace,.i snow,.ptr (walkCells n p) 0] (.i (timeW t pace snow p.load)):=by
 refine z10 21 Tryz.call98 Tryz.func98 rfl (by decide) fun J=>?_
 simp only [go_sem,St.start,Tryz.ntmps98,Tryz.results98,walkCells]
 repeat (first|refine nx ?_|(refine z3 fun K hK=>?_;simp only [go_sem];apply hK;clear hK K))
 simp only [go_sem,timeW]
theorem z1321 (t pace snow load:Int):Fn Tryz.prog 82 [.i t,.i pace,.i snow,.i load] (.i (timeW t pace snow load)):=by
 refine z10 20 Tryz.call82 Tryz.func82 rfl (by decide) fun J=>?_
 simp only [go_sem,St.start,Tryz.ntmps82,Tryz.results82]
 repeat (first|refine nx ?_|(refine z3 fun K hK=>?_;simp only [go_sem];apply hK;clear hK K))
 simp only [go_sem,timeW]
def enterF (opens:List Span) (t:Int):Int:=opens.foldl (fun f s=>if t≤s.hi then min f (max t s.lo) else f) 1073741824
end Go.Ab
namespace Go.Ab
open Go.RowKit Go.Proofs
def spanW (x:Path) (p:Party):Span:=⟨timeW x.time.lo p.pace.lo x.snow.lo p.load,timeW x.time.hi p.pace.hi x.snow.hi p.load⟩
theorem z1360 (n:Net) (p:Party) (i:Nat) (x:Path) (hx:n.paths[i]?=some x):Fn Tryz.prog 80 [.agg (walkCells n p),.i i] (.agg (spanW x p).row):=by
 refine z10 39 Tryz.call80 Tryz.func80 rfl (by decide) fun J=>?_
 simp only [go_sem,St.start,Tryz.ntmps80,Tryz.results80,walkCells]
 repeat (first|refine nx ?_|(refine z3 fun K hK=>?_;simp only [go_sem,hx,List.getElem?_map,Path.row,Span.row,spanW];(repeat (first|(refine⟨_,.lent (hf:=z1319 _ _ _ n p) (hd:=rfl) (hr:=rfl),?_⟩;simp only [go_sem,hx,List.getElem?_map,Path.row,Span.row,spanW])|(refine⟨_,.given (hf:=z1319 _ _ _ n p) (hd:=rfl) (ha:=rfl),?_⟩;simp only [go_sem,hx,List.getElem?_map,Path.row,Span.row,spanW])));apply hK;clear hK K)|(refine z7 (by kernel_rfl) (by kernel_rfl) fun K hK=>?_;simp only [go_sem,hx,List.getElem?_map,Path.row,Span.row,spanW];(repeat (first|(refine⟨_,.fn (hf:=z1319 _ _ _ n p) (hd:=rfl) (hr:=.inl rfl),?_⟩;simp only [go_sem,hx,List.getElem?_map,Path.row,Span.row,spanW])));refine⟨by kernel_rfl,hK _ ?_⟩;clear hK K))
 simp only [go_sem,hx,List.getElem?_map,Path.row,Span.row,spanW]
theorem z1401 (n:Net) (p:Party) (i:Nat) (x:Path) (hx:n.paths[i]?=some x):Fn Tryz.prog 52 [.agg n.cells,.agg p.cells,.i i] (.agg (spanW x p).row):=by
 refine z10 38 Tryz.call52 Tryz.func52 rfl (by decide) fun J=>?_
 simp only [go_sem,St.start,Tryz.ntmps52,Tryz.results52,Net.cells,Party.cells]
 repeat (first|refine nx ?_|(refine z3 fun K hK=>?_;simp only [go_sem,hx,List.getElem?_map,Path.row,Span.row,spanW];(repeat (first|(refine⟨_,.lent (hf:=z1321 _ _ _ _) (hd:=rfl) (hr:=rfl),?_⟩;simp only [go_sem,hx,List.getElem?_map,Path.row,Span.row,spanW])|(refine⟨_,.given (hf:=z1321 _ _ _ _) (hd:=rfl) (ha:=rfl),?_⟩;simp only [go_sem,hx,List.getElem?_map,Path.row,Span.row,spanW])));apply hK;clear hK K)|(refine z7 (by kernel_rfl) (by kernel_rfl) fun K hK=>?_;simp only [go_sem,hx,List.getElem?_map,Path.row,Span.row,spanW];(repeat (first|(refine⟨_,.fn (hf:=z1321 _ _ _ _) (hd:=rfl) (hr:=.inl rfl),?_⟩;simp only [go_sem,hx,List.getElem?_map,Path.row,Span.row,spanW])));refine⟨by kernel_rfl,hK _ ?_⟩;clear hK K))
 simp only [go_sem,hx,List.getElem?_map,Path.row,Span.row,spanW]
def idxFrom {α:Type} (q:α→Bool):List α→Nat→Int
 | [],_=>-1
 | x::xs,i=>if q x then (i:Int) else idxFrom q xs (i + 1)
theorem z61 {α:Type} (q:α→Bool):∀ (l:List α) (i:Nat),decide (idxFrom q l i ≥ 0)=l.any q
 | [],i=>by simp [idxFrom]
 | x::xs,i=>by
  simp only [idxFrom,List.any_cons]
  by_cases h:q x
  ·simp [h]
  ·simp [h,← z61 q xs (i + 1)]
theorem z149 (m:List (Option Blk)) (x:AV) (d:DV) (caps:List DV) (h:reify m deep x=some d):allSome ((x::caps.map AV.d).map (reify m deep))=some (d::caps):=by
 have:∀ l:List DV,allSome ((l.map AV.d).map (reify m deep))=some l:=by
  intro l
  induction l with
  | nil=>rfl
  | cons a l ih =>
   simp only [List.map_cons]
   rw [show reify m deep (AV.d a)=some a from rfl]
   simp only [allSome,ih,Option.map_some]
 simp only [List.map_cons,h,allSome]
 rw [this caps]
 rfl
theorem z86 {α:Type} {l:List α} {i:Nat} {x:α} (h:l[i]?=some x):l.drop i=x::l.drop (i + 1):=by
 obtain⟨hlt,rfl⟩:=List.getElem?_eq_some_iff.1 h
 exact List.drop_eq_getElem_cons hlt
theorem z1355 (xs:List Span) (g:Nat) (caps:List DV) (q:Span→Bool) (hq:∀ s ∈ xs,Fn Tryz.prog g (.agg s.row::caps) (.bool (q s))) (hl:xs.length<2 ^ 62):Fn Tryz.prog 92 [.sl (xs.map Span.row),.fn g caps] (.i (idxFrom q xs 0)):=by
 refine z10 19 Tryz.call92 Tryz.func92 rfl (by decide) fun J=>?_
 simp only [go_sem,St.start,Tryz.ntmps92,Tryz.results92]
 repeat (first|refine nx ?_|(refine z3 fun K hK=>?_;simp only [go_sem];apply hK;clear hK K))
 refine z12 (fun (i:Nat)=>[(8,.d (.i i))]) (fun _=>[]) (fun i=>i≤xs.length∧idxFrom q xs 0=idxFrom q (xs.drop i) i) (fun i=>xs.length - i) 0 ?_ ⟨Nat.zero_le _,rfl⟩ ?_
 ·simp only [go_sem]
  refine weA ?_ ?_ <;> simp
 ·intro i ⟨hi,hq0⟩
  simp only [go_sem]
  repeat (first|refine nx ?_|(refine z3 fun K hK=>?_;simp only [go_sem];apply hK;clear hK K))
  refine z4 rfl (fun hb=>?_) (fun hb=>?_)
  ·have hlt:i<xs.length:=by simpa using hb
   obtain⟨s,hs⟩:∃ s,xs[i]?=some s:=⟨_,List.getElem?_eq_getElem hlt⟩
   have hw:IntKind.i64.wrap ((i:Int) + 1)=((i + 1:Nat):Int):=by rw [z9 (by omega)];simp
   rw [z86 hs,idxFrom] at hq0
   repeat (first|refine nx ?_|(refine z3 fun K hK=>?_;simp only [go_sem];apply hK;clear hK K))
   refine z3 fun K hK=>?_
   simp only [go_sem,hs,List.getElem?_map,Span.row,hw]
   refine⟨_,.lent (hf:=hq s (List.mem_of_getElem? hs)) (hd:=z149 _ _ _ _ rfl) (hr:=rfl),?_⟩
   simp only [go_sem]
   apply hK
   clear hK K
   refine z4 rfl (fun hc=>?_) (fun hc=>?_)
   ·rw [hc,if_pos rfl] at hq0
    repeat (first|refine nx ?_|(refine z3 fun K hK=>?_;simp only [go_sem];apply hK;clear hK K))
    simp only [go_sem,hq0]
   ·rw [hc] at hq0
    repeat (first|refine nx ?_|(refine z3 fun K hK=>?_;simp only [go_sem,hw];apply hK;clear hK K))
    refine⟨rfl,i + 1,?_,⟨hlt,hq0⟩,by omega⟩
    refine weA ?_ ?_ <;> simp
  ·have he:i=xs.length:=by have:¬ i<xs.length:=by simpa using hb
                           omega
   subst he
   repeat (first|refine nx ?_|(refine z3 fun K hK=>?_;simp only [go_sem];apply hK;clear hK K))
   simp only [go_sem,hq0,List.drop_length,idxFrom]
theorem z1354 (xs:List (Path)) (g:Nat) (caps:List DV) (q:Path→Bool) (hq:∀ s ∈ xs,Fn Tryz.prog g (.agg s.row::caps) (.bool (q s))) (hl:xs.length<2 ^ 62):Fn Tryz.prog 93 [.sl (xs.map Path.row),.fn g caps] (.i (idxFrom q xs 0)):=by
 refine z10 19 Tryz.call93 Tryz.func93 rfl (by decide) fun J=>?_
 simp only [go_sem,St.start,Tryz.ntmps93,Tryz.results93]
 repeat (first|refine nx ?_|(refine z3 fun K hK=>?_;simp only [go_sem];apply hK;clear hK K))
 refine z12 (fun (i:Nat)=>[(8,.d (.i i))]) (fun _=>[]) (fun i=>i≤xs.length∧idxFrom q xs 0=idxFrom q (xs.drop i) i) (fun i=>xs.length - i) 0 ?_ ⟨Nat.zero_le _,rfl⟩ ?_
 ·simp only [go_sem]
  refine weA ?_ ?_ <;> simp
 ·intro i ⟨hi,hq0⟩
  simp only [go_sem]
  repeat (first|refine nx ?_|(refine z3 fun K hK=>?_;simp only [go_sem];apply hK;clear hK K))
  refine z4 rfl (fun hb=>?_) (fun hb=>?_)
  ·have hlt:i<xs.length:=by simpa using hb
   obtain⟨s,hs⟩:∃ s,xs[i]?=some s:=⟨_,List.getElem?_eq_getElem hlt⟩
   have hw:IntKind.i64.wrap ((i:Int) + 1)=((i + 1:Nat):Int):=by rw [z9 (by omega)];simp
   rw [z86 hs,idxFrom] at hq0
   repeat (first|refine nx ?_|(refine z3 fun K hK=>?_;simp only [go_sem];apply hK;clear hK K))
   refine z3 fun K hK=>?_
   simp only [go_sem,hs,List.getElem?_map,Path.row,hw]
   refine⟨_,.lent (hf:=hq s (List.mem_of_getElem? hs)) (hd:=z149 _ _ _ _ rfl) (hr:=rfl),?_⟩
   simp only [go_sem]
   apply hK
   clear hK K
   refine z4 rfl (fun hc=>?_) (fun hc=>?_)
   ·rw [hc,if_pos rfl] at hq0
    repeat (first|refine nx ?_|(refine z3 fun K hK=>?_;simp only [go_sem];apply hK;clear hK K))
    simp only [go_sem,hq0]
   ·rw [hc] at hq0
    repeat (first|refine nx ?_|(refine z3 fun K hK=>?_;simp only [go_sem,hw];apply hK;clear hK K))
    refine⟨rfl,i + 1,?_,⟨hlt,hq0⟩,by omega⟩
    refine weA ?_ ?_ <;> simp
  ·have he:i=xs.length:=by have:¬ i<xs.length:=by simpa using hb
                           omega
   subst he
   repeat (first|refine nx ?_|(refine z3 fun K hK=>?_;simp only [go_sem];apply hK;clear hK K))
   simp only [go_sem,hq0,List.drop_length,idxFrom]
theorem z1357 (xs:List (Int)) (g:Nat) (caps:List DV) (q:Int→Bool) (hq:∀ s ∈ xs,Fn Tryz.prog g (.i s::caps) (.bool (q s))) (hl:xs.length<2 ^ 62):Fn Tryz.prog 84 [.sl (xs.map (fun x=>[.i x])),.fn g caps] (.i (idxFrom q xs 0)):=by
 refine z10 19 Tryz.call84 Tryz.func84 rfl (by decide) fun J=>?_
 simp only [go_sem,St.start,Tryz.ntmps84,Tryz.results84]
 repeat (first|refine nx ?_|(refine z3 fun K hK=>?_;simp only [go_sem];apply hK;clear hK K))
 refine z12 (fun (i:Nat)=>[(8,.d (.i i))]) (fun _=>[]) (fun i=>i≤xs.length∧idxFrom q xs 0=idxFrom q (xs.drop i) i) (fun i=>xs.length - i) 0 ?_ ⟨Nat.zero_le _,rfl⟩ ?_
 ·simp only [go_sem]
  refine weA ?_ ?_ <;> simp
 ·intro i ⟨hi,hq0⟩
  simp only [go_sem]
  repeat (first|refine nx ?_|(refine z3 fun K hK=>?_;simp only [go_sem];apply hK;clear hK K))
  refine z4 rfl (fun hb=>?_) (fun hb=>?_)
  ·have hlt:i<xs.length:=by simpa using hb
   obtain⟨s,hs⟩:∃ s,xs[i]?=some s:=⟨_,List.getElem?_eq_getElem hlt⟩
   have hw:IntKind.i64.wrap ((i:Int) + 1)=((i + 1:Nat):Int):=by rw [z9 (by omega)];simp
   rw [z86 hs,idxFrom] at hq0
   repeat (first|refine nx ?_|(refine z3 fun K hK=>?_;simp only [go_sem];apply hK;clear hK K))
   refine z3 fun K hK=>?_
   simp only [go_sem,hs,List.getElem?_map,hw]
   refine⟨_,.lent (hf:=hq s (List.mem_of_getElem? hs)) (hd:=z149 _ _ _ _ rfl) (hr:=rfl),?_⟩
   simp only [go_sem]
   apply hK
   clear hK K
   refine z4 rfl (fun hc=>?_) (fun hc=>?_)
   ·rw [hc,if_pos rfl] at hq0
    repeat (first|refine nx ?_|(refine z3 fun K hK=>?_;simp only [go_sem];apply hK;clear hK K))
    simp only [go_sem,hq0]
   ·rw [hc] at hq0
    repeat (first|refine nx ?_|(refine z3 fun K hK=>?_;simp only [go_sem,hw];apply hK;clear hK K))
    refine⟨rfl,i + 1,?_,⟨hlt,hq0⟩,by omega⟩
    refine weA ?_ ?_ <;> simp
  ·have he:i=xs.length:=by have:¬ i<xs.length:=by simpa using hb
                           omega
   subst he
   repeat (first|refine nx ?_|(refine z3 fun K hK=>?_;simp only [go_sem];apply hK;clear hK K))
   simp only [go_sem,hq0,List.drop_length,idxFrom]
theorem z1393 (xs:List (Span)) (g:Nat) (caps:List DV) (q:Span→Bool) (hq:∀ s ∈ xs,Fn Tryz.prog g (.agg s.row::caps) (.bool (q s))) (hl:xs.length<2 ^ 62):Fn Tryz.prog 71 [.sl (xs.map Span.row),.fn g caps] (.bool (xs.any q)):=by
 refine z10 9 Tryz.call71 Tryz.func71 rfl (by decide) fun J=>?_
 simp only [go_sem,St.start,Tryz.ntmps71,Tryz.results71]
 repeat (first|refine nx ?_|(refine z3 fun K hK=>?_;simp only [go_sem];(repeat (first|(refine⟨_,.lent (hf:=z1355 xs g caps q hq hl) (hd:=rfl) (hr:=rfl),?_⟩;simp only [go_sem])|(refine⟨_,.given (hf:=z1355 xs g caps q hq hl) (hd:=rfl) (ha:=rfl),?_⟩;simp only [go_sem])));apply hK;clear hK K))
 simp only [go_sem,z61]
theorem z1392 (xs:List (Path)) (g:Nat) (caps:List DV) (q:Path→Bool) (hq:∀ s ∈ xs,Fn Tryz.prog g (.agg s.row::caps) (.bool (q s))) (hl:xs.length<2 ^ 62):Fn Tryz.prog 72 [.sl (xs.map Path.row),.fn g caps] (.bool (xs.any q)):=by
 refine z10 9 Tryz.call72 Tryz.func72 rfl (by decide) fun J=>?_
 simp only [go_sem,St.start,Tryz.ntmps72,Tryz.results72]
 repeat (first|refine nx ?_|(refine z3 fun K hK=>?_;simp only [go_sem];(repeat (first|(refine⟨_,.lent (hf:=z1354 xs g caps q hq hl) (hd:=rfl) (hr:=rfl),?_⟩;simp only [go_sem])|(refine⟨_,.given (hf:=z1354 xs g caps q hq hl) (hd:=rfl) (ha:=rfl),?_⟩;simp only [go_sem])));apply hK;clear hK K))
 simp only [go_sem,z61]
theorem z1325 (xs:List (Int)) (g:Nat) (caps:List DV) (q:Int→Bool) (hq:∀ s ∈ xs,Fn Tryz.prog g (.i s::caps) (.bool (q s))) (hl:xs.length<2 ^ 62):Fn Tryz.prog 56 [.sl (xs.map fun x=>[.i x]),.fn g caps] (.bool (xs.any q)):=by
 refine z10 9 Tryz.call56 Tryz.func56 rfl (by decide) fun J=>?_
 simp only [go_sem,St.start,Tryz.ntmps56,Tryz.results56]
 repeat (first|refine nx ?_|(refine z3 fun K hK=>?_;simp only [go_sem];(repeat (first|(refine⟨_,.lent (hf:=z1357 xs g caps q hq hl) (hd:=rfl) (hr:=rfl),?_⟩;simp only [go_sem])|(refine⟨_,.given (hf:=z1357 xs g caps q hq hl) (hd:=rfl) (ha:=rfl),?_⟩;simp only [go_sem])));apply hK;clear hK K))
 simp only [go_sem,z61]
end Go.Ab
namespace Go.Ab
open Go.RowKit Go.Proofs
def latestF (opens:List Span) (b:Int):Int:=opens.foldl (fun last s=>if s.lo≤b then max last (min s.hi b) else last) (-1)
def arriveF (opens:List Span) (t time:Int):Int:=if wr (enterF opens t + time) > 2880 then 1073741824 else wr (enterF opens t + time)
theorem z1383 (n:Net) (p:Party) (i:Nat) (x:Path) (t time:Int) (hx:n.paths[i]?=some x) (hl:x.opens.length<2 ^ 62):Fn Tryz.prog 97 [.agg (walkCells n p),.i i,.i t,.i time] (.i (arriveF x.opens t time)):=by
 refine z10 42 Tryz.call97 Tryz.func97 rfl (by decide) fun J=>?_
 simp only [go_sem,St.start,Tryz.ntmps97,Tryz.results97,walkCells]
 repeat (first|refine nx ?_|(refine z3 fun K hK=>?_;simp only [go_sem,hx,List.getElem?_map,Path.row];apply hK;clear hK K))
 refine z12 (fun (j:Nat)=>[(9,.d (.i (enterF (x.opens.take j) t))),(20,.d (.i j))]) (fun _=>[]) (fun j=>j≤x.opens.length) (fun j=>x.opens.length - j) 0 ?_ (Nat.zero_le _) ?_
 ·simp only [go_sem]
  refine weA ?_ ?_ <;> simp
  rfl
 ·intro j hj
  simp only [go_sem]
  repeat (first|refine nx ?_|(refine z3 fun K hK=>?_;simp only [go_sem];apply hK;clear hK K))
  refine z4 rfl (fun hb=>?_) (fun hb=>?_)
  ·have hlt:j<x.opens.length:=by simpa using hb
   obtain⟨s,hs⟩:∃ s,x.opens[j]?=some s:=⟨_,List.getElem?_eq_getElem hlt⟩
   have hw:IntKind.i64.wrap ((j:Int) + 1)=((j + 1:Nat):Int):=by rw [z9 (by omega)];simp
   have hn:enterF (x.opens.take (j + 1)) t=if t≤s.hi then min (enterF (x.opens.take j) t) (max t s.lo) else enterF (x.opens.take j) t:=z28 _ _ _ _ _ hs
   repeat (first|refine nx ?_|(refine z3 fun K hK=>?_;simp only [go_sem,hs,List.getElem?_map,Span.row,hw];apply hK;clear hK K))
   refine z4 rfl (fun hc=>?_) (fun hc=>?_)
   ·have hc:t≤s.hi:=by simpa using hc
    repeat (first|refine nx ?_|(refine z3 fun K hK=>?_;simp only [go_sem,hs,List.getElem?_map,Span.row,hw];apply hK;clear hK K))
    refine⟨rfl,j + 1,?_,hlt,by omega⟩
    rw [hn,if_pos hc]
    refine weA ?_ ?_ <;> simp
   ·have hc:¬ t≤s.hi:=by simpa using hc
    repeat (first|refine nx ?_|(refine z3 fun K hK=>?_;simp only [go_sem,hs,List.getElem?_map,Span.row,hw];apply hK;clear hK K))
    refine⟨rfl,j + 1,?_,hlt,by omega⟩
    rw [hn,if_neg hc]
    refine weA ?_ ?_ <;> simp
  ·have he:j=x.opens.length:=by have:¬ j<x.opens.length:=by simpa using hb
                                omega
   subst he
   repeat (first|refine nx ?_|(refine z3 fun K hK=>?_;simp only [go_sem,List.take_length];apply hK;clear hK K))
   refine z4 rfl (fun hc=>?_) (fun hc=>?_)
   ·have hc:wr (enterF x.opens t + time) > 2880:=by simpa using hc
    repeat (first|refine nx ?_|(refine z3 fun K hK=>?_;simp only [go_sem,List.take_length];apply hK;clear hK K))
    simp only [go_sem,arriveF,hc]
   ·have hc:¬ wr (enterF x.opens t + time) > 2880:=by simpa using hc
    repeat (first|refine nx ?_|(refine z3 fun K hK=>?_;simp only [go_sem,List.take_length];apply hK;clear hK K))
    simp only [go_sem,arriveF,hc]
def stepF (x:Path) (p:Party) (t:Int) (high:Bool):Int :=
 if enterF x.opens t ≥ 1073741824 then 1073741824 else
  let a:=wr (enterF x.opens t + if high then (spanW x p).hi else (spanW x p).lo)
  if a > 2880 then 1073741824 else a
end Go.Ab
namespace Go.Ab
open Go.RowKit Go.Proofs
def waysFrom (p:Party) (but:Int):List Path→Nat→List (Nat × Path)
 | [],_=>[]
 | x::xs,i=>if (i:Int)≠but∧x.grade≤p.grade then (i,x)::waysFrom p but xs (i + 1) else waysFrom p but xs (i + 1)
def waysL (n:Net) (p:Party) (but:Int):List (Nat × Path):=waysFrom p but n.paths 0
def wayRow (x:Nat × Path):List DV:=[.i x.1,.agg x.2.row]
theorem z1384 (n:Net) (p:Party) (but:Int):Fn Tryz.prog 96 [.agg (walkCells n p),.i but] (.fn 103 [.ptr (walkCells n p) 0,.ptr [.i but] 0]):=by
 refine z10 6 Tryz.call96 Tryz.func96 rfl (by decide) fun J=>?_
 simp only [go_sem,St.start,Tryz.ntmps96,Tryz.results96,walkCells]
 repeat (first|refine nx ?_|(refine z3 fun K hK=>?_;simp only [go_sem];apply hK;clear hK K))
 simp only [go_sem,walkCells]
theorem z1269 (n:Net) (p:Party) (but:Int) (hl:n.paths.length<2 ^ 62):Iter Tryz.prog 103 [.ptr (walkCells n p) 0,.ptr [.i but] 0] ((waysL n p but).map wayRow):=by
 refine z1125 31 Tryz.call103 Tryz.func103 rfl rfl fun l J B hS hG=>?_
 simp only [go_sem,St.start,Tryz.ntmps103,walkCells]
 repeat (first|refine nx ?_|(refine z3 fun K hK=>?_;simp only [go_sem];apply hK;clear hK K))
 refine z78 (fun (j:Nat)=>[(10,.d (.i j))]) (fun _=>[]) (fun k j=>j≤n.paths.length∧∃ kk,k=some kk∧kk≤(waysL n p but).length∧(waysL n p but).drop kk=waysFrom p but (n.paths.drop j) j) (fun j=>n.paths.length - j) 0 ?_ ⟨Nat.zero_le _,0,rfl,Nat.zero_le _,rfl⟩ ?_
 ·simp only [go_sem]
  refine weA ?_ ?_ <;> simp
 ·rintro k j ⟨hj,kk,rfl,hkk,hd⟩
  simp only [go_sem]
  repeat (first|refine nx ?_|(refine z3 fun K hK=>?_;simp only [go_sem];apply hK;clear hK K))
  refine z4 rfl (fun hb=>?_) (fun hb=>?_)
  ·have hlt:j<n.paths.length:=by simpa using hb
   obtain⟨x,hx⟩:∃ x,n.paths[j]?=some x:=⟨_,List.getElem?_eq_getElem hlt⟩
   have hw:IntKind.i64.wrap ((j:Int) + 1)=((j + 1:Nat):Int):=by rw [z9 (by omega)];simp
   rw [z86 hx,waysFrom] at hd
   have h74:=z1361 n p j x hx
   repeat (first|refine nx ?_|(refine z3 fun K hK=>?_;simp only [go_sem,hx,List.getElem?_map,Path.row];apply hK;clear hK K))
   refine z504 hS hG fun K hK=>?_
   by_cases hbut:(j:Int)=but
   ·have hbe:((j:Int) != but)=false:=by simp [hbut]
    rw [if_neg (by simp [hbut])] at hd
    simp only [go_sem,hbe]
    refine hK _ _ ?_
    clear hK K
    refine z5 rfl ?_
    repeat (first|refine nx ?_|(refine z3 fun K hK=>?_;simp only [go_sem,hw];apply hK;clear hK K))
    refine⟨j + 1,?_,⟨hlt,kk,rfl,hkk,hd⟩,by omega⟩
    refine weA ?_ ?_ <;> simp
   ·have hbe:((j:Int) != but)=true:=by simpa using hbut
    simp only [go_sem,hbe]
    refine⟨_,.lent (hf:=h74) (hd:=rfl) (hr:=rfl),?_⟩
    by_cases hg:x.grade≤p.grade
    ·rw [if_pos ⟨hbut,hg⟩] at hd
     have hkl:kk<(waysL n p but).length:=by
      rcases Nat.lt_or_ge kk (waysL n p but).length with h | h
      ·exact h
      ·rw [List.drop_eq_nil_of_le h] at hd;cases hd
     have hget:(waysL n p but)[kk]?=some (j,x):=by
      have:=congrArg (fun l=>l[0]?) hd
      simpa using this
     have hd2:(waysL n p but).drop (kk + 1)=waysFrom p but (n.paths.drop (j + 1)) (j + 1):=by
      have:=congrArg (List.drop 1) hd
      simpa [Nat.add_comm] using this
     simp only [go_sem,hg]
     refine⟨rfl,kk,wayRow (j,x),rfl,rfl,by rw [List.getElem?_map,hget];rfl,?_,?_⟩
     ·simp only [go_sem]
      refine hK _ _ ?_
      clear hK K
      refine z5 rfl ?_
      repeat (first|refine nx ?_|(refine z3 fun K hK=>?_;simp only [go_sem,hw];apply hK;clear hK K))
      refine⟨j + 1,?_,⟨hlt,kk + 1,rfl,hkl,hd2⟩,by omega⟩
      refine weA ?_ ?_ <;> simp
     ·simp only [go_sem]
      refine hK _ _ ?_
      clear hK K
      refine z8 rfl ?_
      repeat (first|refine nx ?_|(refine z3 fun K hK=>?_;simp only [go_sem];apply hK;clear hK K))
      exact⟨trivial,.inr rfl⟩
    ·rw [if_neg (by simp [hg])] at hd
     simp only [go_sem,hg]
     refine hK _ _ ?_
     clear hK K
     refine z5 rfl ?_
     repeat (first|refine nx ?_|(refine z3 fun K hK=>?_;simp only [go_sem,hw];apply hK;clear hK K))
     refine⟨j + 1,?_,⟨hlt,kk,rfl,hkk,hd⟩,by omega⟩
     refine weA ?_ ?_ <;> simp
  ·have he:j=n.paths.length:=by have:¬ j<n.paths.length:=by simpa using hb
                                omega
   subst he
   repeat (first|refine nx ?_|(refine z3 fun K hK=>?_;simp only [go_sem];apply hK;clear hK K))
   refine⟨trivial,.inl ?_⟩
   rw [List.drop_length,waysFrom,List.drop_eq_nil_iff] at hd
   simp only [List.length_map,Option.some.injEq]
   omega
end Go.Ab
namespace Go.Ab
open Go.RowKit Go.Proofs
theorem z1210 (m:Nat) (h:m<2 ^ 32):bAnd .u64 (m:Int) 4294967295=(m:Int):=by
 have h1:(BitVec.ofInt 64 (m:Int) &&& BitVec.ofInt 64 4294967295).toNat=m:=by
  rw [BitVec.toNat_and]
  have e1:(BitVec.ofInt 64 (m:Int)).toNat=m:=by simp [BitVec.toNat_ofInt];omega
  have e2:(BitVec.ofInt 64 4294967295).toNat=2 ^ 32 - 1:=by decide
  rw [e1,e2,Nat.and_two_pow_sub_one_eq_mod,Nat.mod_eq_of_lt h]
 show IntKind.u64.wrap ((BitVec.ofInt 64 (m:Int) &&& BitVec.ofInt 64 4294967295).toNat:Int)=(m:Int)
 rw [h1,IntKind.wrap_u64]
 omega
theorem z919 (m:Nat) (h:m<2 ^ 63):IntKind.u64.wrap (m:Int)=(m:Int):=by rw [IntKind.wrap_u64];omega
theorem z1286 (m:Nat) (h:m<2 ^ 32):Fn Tryz.prog 100 [.int .u64 1,.int .u64 m] (.tup [.int .u64 0,.int .u64 m]):=by
 refine z10 51 Tryz.call100 Tryz.func100 rfl (by decide) fun J=>?_
 simp only [go_sem,St.start,Tryz.ntmps100,Tryz.results100]
 have h1:bAnd .u64 1 4294967295=1:=by decide
 have h2:bAnd .u64 (m:Int) 4294967295=m:=z1210 m h
 have h3:IntKind.u64.wrap (m:Int)=m:=z919 m (by omega)
 have h4:bShr .u64 (m:Int) 32=0:=by
  show Int.fdiv (m:Int) 4294967296=0
  rw [Int.fdiv_eq_ediv_of_nonneg _ (by omega)]
  omega
 have h5:bShr .u64 1 32=0:=by decide
 have h6:bShr .u64 0 32=0:=by decide
 have h7:IntKind.u64.wrap (0:Int)=0:=by decide
 have h8:bAnd .u64 0 4294967295=0:=by decide
 repeat (first|refine nx ?_|(refine z3 fun K hK=>?_;simp only [go_sem,h1,h2,h3,h4,h5,h6,h7,h8,Int.one_mul,Int.mul_one,Int.zero_mul,Int.mul_zero,Int.add_zero,Int.zero_add];apply hK;clear hK K))
 simp only [go_sem]
theorem z1359 (m:Nat) (h:m<2 ^ 32):Fn Tryz.prog 81 [.int .u64 1,.int .u64 m] (.tup [.int .u64 0,.int .u64 m]):=by
 refine z10 30 Tryz.call81 Tryz.func81 rfl (by decide) fun J=>?_
 simp only [go_sem,St.start,Tryz.ntmps81,Tryz.results81]
 repeat (first|refine nx ?_|(refine z3 fun K hK=>?_;simp only [go_sem];apply hK;clear hK K))
 refine z5 rfl ?_
 repeat (first|refine nx ?_|(refine z3 fun K hK=>?_;simp only [go_sem];(repeat (first|(refine⟨_,.lent (hf:=z1286 m h) (hd:=rfl) (hr:=rfl),?_⟩;simp only [go_sem])|(refine⟨_,.given (hf:=z1286 m h) (hd:=rfl) (ha:=rfl),?_⟩;simp only [go_sem])));apply hK;clear hK K))
 simp only [go_sem]
def filled (c:Int) (m i:Nat):List (List DV):=List.replicate i [.i c]++List.replicate (m - i) [.i 0]
theorem z1047 (c:Int) (m i:Nat) (h:i≤m):(filled c m i).length=m:=by simp [filled];omega
theorem z226 (c:Int) (m i:Nat):(filled c m i).take i=List.replicate i [.i c]:=by simp [filled,List.take_append]
theorem z904 (c:Int) (m i k:Nat):(filled c m i).drop (i + k)=List.replicate (m - (i + k)) [.i 0]:=by
 simp only [filled,List.drop_append,List.length_replicate,List.drop_replicate]
 rw [show i - (i + k)=0 by omega,show i + k - i=k by omega,show m - i - k=m - (i + k) by omega]
 rfl
theorem z902 (c:Int) (m i k:Nat) (hk:k≤i):(filled c m i).take i++((List.replicate i [DV.i c]).take k++(filled c m i).drop (i + k))=filled c m (i + k):=by
 rw [z226,z904,List.take_replicate,show min k i=k by omega,← List.append_assoc,List.replicate_append_replicate]
 rfl
theorem z903 (c:Int) (m:Nat):List.take (min 1 m) [[DV.i c]]++List.drop (min 1 m) (List.replicate m [DV.i 0])=filled c m (min 1 m):=by
 rcases Nat.eq_zero_or_pos m with h | h
 ·subst h;rfl
 ·rw [show min 1 m=1 by omega]
  simp [filled]
attribute [go_sem] opCopyA
theorem z1369 (c:Int) (m:Nat) (h:m<2 ^ 30):FnS Tryz.prog 50 [.sl [[.i c]],.i m] 3 1 (List.replicate m [.i c]):=by
 refine z249 48 Tryz.call50 Tryz.func50 rfl (by decide) fun J=>?_
 simp only [go_sem,St.start,Tryz.ntmps50,Tryz.results50]
 have h1:¬ ((m:Int)<0):=by omega
 have h2:IntKind.u64.wrap (m:Int)=m:=z919 m (by omega)
 have h3:IntKind.i64.wrap (m:Int)=m:=z9 (by omega)
 have h4:¬ (9223372036854775807<(m:Int)):=by omega
 have h5:IntKind.u64.wrap (1:Int)=1:=by decide
 have h6:(m:Int)≤2 ^ 40:=by omega
 repeat (first|refine nx ?_|(refine z3 fun K hK=>?_;simp only [go_sem,h1];apply hK;clear hK K))
 refine z5 rfl ?_
 repeat (first|refine nx ?_|(refine z3 fun K hK=>?_;simp only [go_sem,h2,h5,h4,gt_iff_lt,Int.lt_irrefl];(repeat (first|(refine⟨_,.lent (hf:=z1359 m (by omega)) (hd:=rfl) (hr:=rfl),?_⟩;simp only [go_sem,h2,h5,h4,gt_iff_lt,Int.lt_irrefl])|(refine⟨_,.given (hf:=z1359 m (by omega)) (hd:=rfl) (ha:=rfl),?_⟩;simp only [go_sem,h2,h5,h4,gt_iff_lt,Int.lt_irrefl])));apply hK;clear hK K))
 refine z5 rfl ?_
 have h7:(m:Int)≤1099511627776:=by omega
 repeat (first|refine nx ?_|(refine z3 fun K hK=>?_;simp only [go_sem,h3,h7,h1];apply hK;clear hK K))
 refine z12 (fun (i:Nat)=>[(7,.own 30),(30,.own 30),(31,.own 30),(8,.d (.i i))]) (fun i=>[(30,some (.arr 3 1 (filled c m i)))]) (fun i=>i≤m∧(i=0→m=0)) (fun i=>m - i) (min 1 m) ?_ (by omega) ?_
 ·simp only [go_sem]
  rw [show List.take (min 1 m) [[DV.i c]]++List.drop (min 1 m) (List.replicate m [DV.int IntKind.i64 0])=filled c m (min 1 m) from z903 c m]
  refine weA ?_ ?_ <;> simp
 ·intro i ⟨hi,hi0⟩
  have hl:=z1047 c m i hi
  simp only [go_sem]
  repeat (first|refine nx ?_|(refine z3 fun K hK=>?_;simp only [go_sem,hl];apply hK;clear hK K))
  refine z4 rfl (fun hb=>?_) (fun hb=>?_)
  ·have hlt:i<m:=by simpa using hb
   have e1:(i:Int)≤(m:Int):=by omega
   have e2:i + (m - i)≤m:=by omega
   have e3:i≤m:=hi
   have e4:min i (m - i)≤i:=by omega
   have hs:=z902 c m i (min i (m - i)) e4
   have hw:IntKind.i64.wrap ((i:Int) + ((min i (m - i):Nat):Int))=((i + min i (m - i):Nat):Int):=by rw [z9 (by omega)];simp
   rw [z226] at hs
   have e5:∀ k,headIs 1 (List.replicate k [DV.i c])=true:=fun k=>by cases k <;> rfl
   repeat (first|refine nx ?_|(refine z3 fun K hK=>?_;simp only [go_sem];apply hK;clear hK K))
   refine z7 (by kernel_rfl) (by kernel_rfl) fun K hK=>?_
   simp only [go_sem,hl,e1,e2,e3,hw,z226,Nat.sub_zero,List.drop_zero,hs]
   refine⟨e5 i,by kernel_rfl,hK _ ?_⟩
   clear hK K
   repeat (first|refine nx ?_|(refine z3 fun K hK=>?_;simp only [go_sem];apply hK;clear hK K))
   refine⟨rfl,i + min i (m - i),?_,by omega,by omega⟩
   refine weA ?_ ?_ <;> simp
  ·have he:i=m:=by have:¬ i<m:=by simpa using hb
                   omega
   subst he
   repeat (first|refine nx ?_|(refine z3 fun K hK=>?_;simp only [go_sem];apply hK;clear hK K))
   simp only [go_sem,filled,Nat.sub_self,List.replicate]
end Go.Ab
namespace Go.Ab
open Go.RowKit Go.Proofs
def intRows (l:List Int):List (List DV):=l.map fun x=>[.i x]
def getI (l:List Int) (i:Int):Int:=l.getD i.toNat 0
theorem z97 {l:List Int} {i:Int} (h0:0≤i) (h1:i.toNat<l.length):(intRows l)[i.toNat]?=some [.i (getI l i)]:=by
 simp [intRows,getI,h1]
theorem z14 (l:List Int):(intRows l).length=l.length:=by simp [intRows]
theorem z106 (l:List Int):rowsFlat (intRows l):=by
 intro r hr d hd
 obtain⟨x,_,rfl⟩:=List.mem_map.1 hr
 simp at hd;subst hd;rfl
theorem z44 (l:List Int) (k:Nat) (x:Int):(intRows l).set k [.i x]=intRows (l.set k x):=by simp [intRows,List.map_set]
theorem z152 (m:Nat) (c:Int):List.replicate m [DV.i c]=intRows (List.replicate m c):=by simp [intRows]
structure Net.Ok (n:Net):Prop where
 places:0≤n.places∧n.places<2 ^ 20
 paths:n.paths.length<2 ^ 20
 frm:∀ x ∈ n.paths,0≤x.frm∧x.frm<n.places
 to:∀ x ∈ n.paths,0≤x.to∧x.to<n.places
 opens:∀ x ∈ n.paths,x.opens.length<2 ^ 20
theorem z134 (p:Party) (but:Int):∀ (l:List Path) (i:Nat) (w:Nat × Path),w ∈ waysFrom p but l i→i≤w.1∧l[w.1 - i]?=some w.2∧w.2.grade≤p.grade∧(w.1:Int)≠but
 | [],_,_,h=>by simp [waysFrom] at h
 | x::xs,i,w,h=>by
  unfold waysFrom at h
  split at h
  ·rename_i hc
   rcases List.mem_cons.1 h with rfl | h
   ·exact⟨Nat.le_refl _,by simp,hc.2,hc.1⟩
   ·obtain⟨h1,h2,h3,h4⟩:=z134 p but xs (i + 1) w h
    exact⟨by omega,by rw [show w.1 - i=(w.1 - (i + 1)) + 1 by omega];simpa using h2,h3,h4⟩
  ·obtain⟨h1,h2,h3,h4⟩:=z134 p but xs (i + 1) w h
   exact⟨by omega,by rw [show w.1 - i=(w.1 - (i + 1)) + 1 by omega];simpa using h2,h3,h4⟩
theorem z179 {n:Net} {p:Party} {but:Int} {w:Nat × Path} (h:w ∈ waysL n p but):n.paths[w.1]?=some w.2:=by
 have:=(z134 p but n.paths 0 w h).2.1
 simpa using this
def relaxD (p:Party) (a:List Int × Bool) (w:Nat × Path):List Int × Bool :=
 let t:=latestF w.2.opens (wr (getI a.1 w.2.to - (spanW w.2 p).hi))
 if t > getI a.1 w.2.frm then (a.1.set w.2.frm.toNat t,true) else a
def passD (n:Net) (p:Party) (l:List Int):List Int × Bool:=(waysL n p (-1)).foldl (relaxD p) (l,false)
end Go.Ab
namespace Go.Ab
open Go.RowKit Go.Proofs
def riseM (l:List Int):Nat:=(l.map fun x=>(2881 - x).toNat).sum
theorem z478 (b:Int):∀ (opens:List Span) (last:Int),last≤2880→(∀ s ∈ opens,s.hi≤2880)→opens.foldl (fun last s=>if s.lo≤b then max last (min s.hi b) else last) last≤2880
 | [],last,h,_=>h
 | s::opens,last,h,hs=>by
  rw [List.foldl_cons]
  refine z478 b opens _ ?_ (fun s' h'=>hs s' (List.mem_cons_of_mem _ h'))
  have:=hs s (List.mem_cons_self ..)
  split <;> omega
def fixD (n:Net) (p:Party):Nat→List Int→List Int
 | 0,l=>l
 | k + 1,l=>if (passD n p l).2 then fixD n p k (passD n p l).1 else (passD n p l).1
def deadlines0 (n:Net) (to b:Int):List Int:=(List.replicate n.places.toNat (-1)).set to.toNat b
def deadlinesL (n:Net) (p:Party) (to b:Int):List Int:=fixD n p (riseM (deadlines0 n to b) + 1) (deadlines0 n to b)
end Go.Ab
namespace Go.Ab
open Go.RowKit Go.Proofs
attribute [local irreducible] WalkL Walk
theorem z593 {P:Program} {rd:Option Nat} {n:Nat} {J:Env} {c:Code} {cs:List Code} {k:Option Nat} {st:St} {Q:Exit→Option Nat→St→Prop} (ds:List Nat) (hw:Weak st (st.head ds [] [])) (h:WalkL P rd n J (c::cs) k (st.head ds [] []) Q) :
  WalkL P rd n J (c::cs) k st Q:=z69 hw h
end Go.Ab
namespace Go.Ab
open Go.RowKit Go.Proofs
attribute [local irreducible] WalkL Walk
def never:Int:=1073741824
def relaxA (p:Party) (q:Span→Int) (a:List Int × Bool) (w:Nat × Path):List Int × Bool :=
 if getI a.1 w.2.frm=never then a else
  let t:=arriveF w.2.opens (getI a.1 w.2.frm) (q (spanW w.2 p))
  if t<getI a.1 w.2.to then (a.1.set w.2.to.toNat t,true) else a
def passA (n:Net) (p:Party) (q:Span→Int) (but:Int) (l:List Int):List Int × Bool:=(waysL n p but).foldl (relaxA p q) (l,false)
theorem z468 (p:Party) (q:Span→Int) (a:List Int × Bool) (w:Nat × Path):(relaxA p q a w).1.length=a.1.length:=by
 unfold relaxA
 split
 ·rfl
 ·dsimp only;split <;> simp
theorem z194 (p:Party) (q:Span→Int):∀ (ws:List (Nat × Path)) (a:List Int × Bool),(ws.foldl (relaxA p q) a).1.length=a.1.length
 | [],_=>rfl
 | w::ws,a=>by rw [List.foldl_cons,z194 p q ws,z468]
def fallM (l:List Int):Nat:=(l.map fun x=>(x + 9223372036854775809).toNat).sum
theorem z736:∀ (l:List Int) (k:Nat) (t x:Int),l[k]?=some x→t<x→-9223372036854775808≤t→fallM (l.set k t)<fallM l
 | [],_,_,_,h,_,_=>by simp at h
 | a::l,0,t,x,h,h1,h2=>by
  simp at h;subst h
  simp only [fallM,List.set_cons_zero,List.map_cons,List.sum_cons]
  omega
 | a::l,k + 1,t,x,h,h1,h2=>by
  have:=z736 l k t x (by simpa using h) h1 h2
  simp only [fallM,List.set_cons_succ,List.map_cons,List.sum_cons] at this ⊢
  omega
theorem z1287 (x:Int):-9223372036854775808≤wr x:=by
 show -9223372036854775808≤IntKind.i64.wrap x
 rw [IntKind.wrap_i64];omega
theorem z915 (opens:List Span) (t d:Int):-9223372036854775808≤arriveF opens t d:=by
 unfold arriveF;split
 ·omega
 ·exact z1287 _
theorem z1139 (p:Party) (q:Span→Int):∀ (ws:List (Nat × Path)) (a:List Int × Bool),(∀ w ∈ ws,w.2.to.toNat<a.1.length) →
  fallM (ws.foldl (relaxA p q) a).1≤fallM a.1∧(a.2=false→(ws.foldl (relaxA p q) a).2=true→fallM (ws.foldl (relaxA p q) a).1<fallM a.1)
 | [],a,_=>⟨Nat.le_refl _,fun h1 h2=>by simp only [List.foldl_nil] at h2;rw [h1] at h2;cases h2⟩
 | w::ws,a,h=>by
  have h2:=h w (List.mem_cons_self ..)
  have ih:=z1139 p q ws (relaxA p q a w) (fun w' h'=>by rw [z468];exact h w' (List.mem_cons_of_mem _ h'))
  rw [List.foldl_cons]
  by_cases hn:getI a.1 w.2.frm=never
  ·have he:relaxA p q a w=a:=by unfold relaxA;rw [if_pos hn]
   rw [he] at ih ⊢;exact ih
  ·by_cases hc:arriveF w.2.opens (getI a.1 w.2.frm) (q (spanW w.2 p))<getI a.1 w.2.to
   ·have he:relaxA p q a w=(a.1.set w.2.to.toNat (arriveF w.2.opens (getI a.1 w.2.frm) (q (spanW w.2 p))),true):=by unfold relaxA;rw [if_neg hn];dsimp only;rw [if_pos hc]
    have hlt:fallM (relaxA p q a w).1<fallM a.1:=by
     rw [he]
     exact z736 a.1 _ _ (getI a.1 w.2.to) (by simp [getI,h2]) hc (z915 _ _ _)
    exact⟨by omega,fun _ _=>by omega⟩
   ·have he:relaxA p q a w=a:=by unfold relaxA;rw [if_neg hn];dsimp only;rw [if_neg hc]
    rw [he] at ih ⊢;exact ih
def fixA (n:Net) (p:Party) (q:Span→Int) (but:Int):Nat→List Int→List Int
 | 0,l=>l
 | k + 1,l=>if (passA n p q but l).2 then fixA n p q but k (passA n p q but l).1 else (passA n p q but l).1
def arrivals0 (n:Net) (frm start:Int):List Int:=(List.replicate n.places.toNat never).set frm.toNat start
def arrivalsL (n:Net) (p:Party) (q:Span→Int) (frm start but:Int):List Int:=fixA n p q but (fallM (arrivals0 n frm start) + 1) (arrivals0 n frm start)
end Go.Ab
namespace Go.Ab
open Go.RowKit Go.Proofs
attribute [local irreducible] WalkL Walk
theorem z1363 (n:Net) (p:Party) (frm start but:Int) (g:Nat) (q:Span→Int) (hq:∀ s,Fn Tryz.prog g [.agg s.row] (.i (q s))) (hn:n.Ok) (hfr:0≤frm∧frm<n.places) :
  FnS Tryz.prog 75 [.agg (walkCells n p),.i frm,.i start,.i but,.fn g []] 3 1 (intRows (arrivalsL n p q frm start but)):=by
 obtain⟨m,hm⟩:∃ m:Nat,n.places=m:=⟨n.places.toNat,by have:=hn.places.1;omega⟩
 have hpl:=hn.places
 refine z249 64 Tryz.call75 Tryz.func75 rfl (by decide) fun J=>?_
 simp only [go_sem,St.start,Tryz.ntmps75,Tryz.results75,walkCells]
 refine z27 ?_
 refine z3 fun K hK=>?_
 simp only [go_sem]
 apply hK
 clear hK K
 refine z27 ?_
 refine z3 fun K hK=>?_
 have h47:FnS Tryz.prog 50 [.sl [[.i 1073741824]],.i n.places] 3 1 (List.replicate m [.i 1073741824]):=by rw [hm];exact z1369 1073741824 m (by omega)
 simp only [go_sem]
 refine⟨_,.lentS (hdst:=rfl) (hf:=h47) (hd:=rfl) (hr:=by intro r hr d hd;rw [List.eq_of_mem_replicate hr] at hd;simp at hd;subst hd;rfl) (hfr:=rfl),?_⟩
 simp only [go_sem]
 apply hK
 clear hK K
 have hlt:frm.toNat<m:=by omega
 have hset:(List.replicate m [DV.int IntKind.i64 1073741824]).set frm.toNat [DV.i start]=intRows (arrivals0 n frm start):=by
  rw [show List.replicate m [DV.int IntKind.i64 1073741824]=intRows (List.replicate m 1073741824) from z152 m 1073741824,z44,arrivals0,hm];rfl
 have hget:(List.replicate m [DV.int IntKind.i64 1073741824])[frm.toNat]?=some [DV.int IntKind.i64 1073741824]:=by simp [hlt]
 repeat (first|refine nx ?_|(refine z3 fun K hK=>?_;simp only [go_sem,hlt,hget,hset,hfr.1];apply hK;clear hK K))
 refine z12 (fun (a:List Int × Bool × Nat)=>[(12,.box 12 0)]) (fun a=>[(12,some (.box [.d (.bool a.2.1)])),(20,some (.arr 3 1 (intRows a.1)))])
  (fun a=>a.1.length=m∧arrivalsL n p q frm start but=(if a.2.1 then fixA n p q but a.2.2 a.1 else a.1)∧(a.2.1=true→fallM a.1<a.2.2)) (fun a=>if a.2.1 then a.2.2 + 1 else 0) (arrivals0 n frm start,true,fallM (arrivals0 n frm start) + 1) ?_ ⟨by simp [arrivals0,hm],by simp [arrivalsL],fun _=>by simp⟩ ?_
 ·simp only [go_sem]
  refine weA ?_ ?_ <;> simp
 ·rintro⟨l,ch,k⟩ ⟨h1,h2,h3⟩
  dsimp only at h1 h2 h3
  simp only [go_sem]
  repeat (first|refine nx ?_|(refine z3 fun K hK=>?_;simp only [go_sem];apply hK;clear hK K))
  refine z4 rfl (fun hb=>?_) (fun hb=>?_)
  ·subst hb
   repeat (first|refine nx ?_|(refine z3 fun K hK=>?_;simp only [go_sem];apply hK;clear hK K))
   refine z3 fun K hK=>?_
   simp only [go_sem]
   refine⟨_,.given (hf:=z1384 n p but) (hd:=rfl) (ha:=rfl),?_⟩
   simp only [go_sem]
   apply hK
   clear hK K
   repeat (first|refine nx ?_|(refine z3 fun K hK=>?_;simp only [go_sem];apply hK;clear hK K))
   refine z590 (g:=.tmp 28) rfl (z1269 n p but (by have:=hn.paths;omega)) (by intro row hr;obtain⟨w,_,rfl⟩:=List.mem_map.1 hr;rfl) (fun _=>[]) (fun (a:List Int × Bool)=>[(12,some (.box [.d (.bool a.2)])),(20,some (.arr 3 1 (intRows a.1)))])
    (fun i a=>a=((waysL n p but).take i).foldl (relaxA p q) (l,false)) (fun _ _=>False) (l,false) ?_ rfl ?_ ?_ (fun _ _ h=>h.elim)
   ·simp only [go_sem]
    refine weA ?_ ?_ <;> simp
   ·intro i a row hi ha l2 m2
    simp only [List.getElem?_map,Option.map_eq_some_iff] at hi
    obtain⟨w,hw,rfl⟩:=hi
    have hx:=z179 (List.mem_of_getElem? hw)
    have hmem:=List.mem_of_getElem? hx
    have hlen:a.1.length=m:=by rw [ha,z194];exact h1
    have hf:=hn.frm w.2 hmem
    have ht:=hn.to w.2 hmem
    have g1:(intRows a.1)[w.2.to.toNat]?=some [.i (getI a.1 w.2.to)]:=z97 ht.1 (by omega)
    have g2:(intRows a.1)[w.2.frm.toNat]?=some [.i (getI a.1 w.2.frm)]:=z97 hf.1 (by omega)
    have g3:w.2.to.toNat<(intRows a.1).length:=by rw [z14];omega
    have g4:w.2.frm.toNat<(intRows a.1).length:=by rw [z14];omega
    have h50:=z1383 n p w.1 w.2 (getI a.1 w.2.frm) (q (spanW w.2 p)) hx (by have:=hn.opens w.2 hmem;omega)
    have h51:=z1360 n p w.1 w.2 hx
    have hnext:((waysL n p but).take (i + 1)).foldl (relaxA p q) (l,false)=relaxA p q a w:=by rw [ha];exact z28 _ _ _ _ _ hw
    simp only [go_sem,wayRow,Path.row]
    repeat (first|refine nx ?_|(refine z3 fun K hK=>?_;simp only [go_sem,g1,g2,g3,g4,ht.1,hf.1];apply hK;clear hK K))
    refine z4 rfl (fun hc=>?_) (fun hc=>?_)
    ·have hc:getI a.1 w.2.frm=never:=by simpa [never] using hc
     have he:relaxA p q a w=a:=by unfold relaxA;rw [if_pos hc]
     repeat (first|refine nx ?_|(refine z3 fun K hK=>?_;simp only [go_sem];apply hK;clear hK K))
     refine⟨rfl,relaxA p q a w,?_,hnext.symm⟩
     rw [he]
     simp only [go_sem]
     refine weA ?_ ?_ <;> simp
    ·have hnv:¬ getI a.1 w.2.frm=never:=by intro e;rw [e] at hc;simp [never] at hc
     repeat (first|refine nx ?_|(refine z3 fun K hK=>?_;simp only [go_sem];apply hK;clear hK K))
     refine z7 (by kernel_rfl) (by kernel_rfl) fun K hK=>?_
     simp only [go_sem,g1,g2,g3,g4,ht.1,hf.1]
     refine⟨_,.fn (hf:=h51) (hd:=rfl) (hr:=.inl rfl),?_⟩
     simp only [go_sem]
     refine⟨_,.fn (hf:=hq _) (hd:=rfl) (hr:=.inl rfl),?_⟩
     simp only [go_sem]
     refine⟨_,.fn (hf:=h50) (hd:=rfl) (hr:=.inl rfl),?_⟩
     simp only [go_sem]
     refine⟨by kernel_rfl,hK _ ?_⟩
     clear hK K
     repeat (first|refine nx ?_|(refine z3 fun K hK=>?_;simp only [go_sem,g1,g2,g3,g4,ht.1,hf.1];apply hK;clear hK K))
     refine z4 rfl (fun hc=>?_) (fun hc=>?_)
     ·have hc:arriveF w.2.opens (getI a.1 w.2.frm) (q (spanW w.2 p))<getI a.1 w.2.to:=by simpa using hc
      have he:relaxA p q a w=(a.1.set w.2.to.toNat (arriveF w.2.opens (getI a.1 w.2.frm) (q (spanW w.2 p))),true):=by unfold relaxA;rw [if_neg hnv];dsimp only;rw [if_pos hc]
      repeat (first|refine nx ?_|(refine z3 fun K hK=>?_;simp only [go_sem,g1,g2,g3,g4,ht.1,hf.1];apply hK;clear hK K))
      refine⟨rfl,relaxA p q a w,?_,hnext.symm⟩
      rw [he,z44]
      simp only [go_sem]
      refine weA ?_ ?_ <;> simp
     ·have hc:¬ arriveF w.2.opens (getI a.1 w.2.frm) (q (spanW w.2 p))<getI a.1 w.2.to:=by simpa using hc
      have he:relaxA p q a w=a:=by unfold relaxA;rw [if_neg hnv];dsimp only;rw [if_neg hc]
      repeat (first|refine nx ?_|(refine z3 fun K hK=>?_;simp only [go_sem];apply hK;clear hK K))
      refine⟨rfl,relaxA p q a w,?_,hnext.symm⟩
      rw [he]
      simp only [go_sem]
      refine weA ?_ ?_ <;> simp
   ·intro a ha
    rw [List.length_map,List.take_length] at ha
    have ha:a=passA n p q but l:=ha
    have hM:=z1139 p q (waysL n p but) (l,false) (fun w hw=>by
     have:=hn.to w.2 (List.mem_of_getElem? (z179 hw))
     show w.2.to.toNat<l.length;omega)
    rw [← show passA n p q but l=(waysL n p but).foldl (relaxA p q) (l,false) from rfl,← ha] at hM
    have hlen:a.1.length=m:=by rw [ha,passA,z194];exact h1
    have hk:=h3 rfl
    simp only [go_sem]
    repeat (first|refine nx ?_|(refine z3 fun K hK=>?_;simp only [go_sem];apply hK;clear hK K))
    refine z593 [12] ?_ ?_
    ·simp only [go_sem]
     refine weA ?_ ?_ <;> simp
    simp only [go_sem]
    repeat (first|refine nx ?_|(refine z3 fun K hK=>?_;simp only [go_sem];apply hK;clear hK K))
    refine⟨rfl,(a.1,a.2,k - 1),?_,⟨hlen,?_,fun hc=>?_⟩,?_⟩
    ·refine weA ?_ ?_ <;> simp
    ·obtain⟨k',rfl⟩:∃ k',k=k' + 1:=⟨k - 1,by omega⟩
     rw [h2,if_pos rfl,fixA,← ha];rfl
    ·have:=hM.2 rfl hc
     dsimp only at this ⊢
     omega
    ·dsimp only
     split <;> simp <;> omega
  ·subst hb
   repeat (first|refine nx ?_|(refine z3 fun K hK=>?_;simp only [go_sem];apply hK;clear hK K))
   simp only [go_sem]
   rw [h2]
   simp
end Go.Ab
namespace Go.Ab
open Go.RowKit Go.Proofs
attribute [local irreducible] WalkL Walk
def told1 (t:Int):Int:=if t=never then -1 else t
theorem z1071 (l:List Int) (i:Nat) (h:i<l.length):((l.take i).map told1++l.drop i).set i (told1 l[i])=(l.take (i + 1)).map told1++l.drop (i + 1):=by
 have h1:((l.take i).map told1).length=i:=by simp;omega
 rw [List.set_append_right _ _ (by omega),h1,Nat.sub_self,List.drop_eq_getElem_cons h,List.set_cons_zero,List.take_add_one,List.map_append]
 simp [h]
theorem z921 (l:List Int) (i:Nat) (h:i<l.length):((l.take i).map told1++l.drop i)[i]?=some l[i]:=by
 have h1:((l.take i).map told1).length=i:=by simp;omega
 rw [List.getElem?_append_right (by omega),h1]
 simp [h]
theorem z1169 (l:List Int) (i:Nat):((l.take i).map told1++l.drop i).length=l.length:=by simp;omega
theorem z1175 {α:Type} {l:List α} {i:Nat} {x:α} (h:l[i]?=some x):l.set i x=l:=by
 apply List.ext_getElem?
 intro k
 rw [List.getElem?_set]
 split
 ·rename_i e;subst e;rw [if_pos (List.getElem?_eq_some_iff.1 h).1,h]
 ·rfl
theorem z1364 (l:List Int) (hl:l.length<2 ^ 62):FnG Tryz.prog 74 [.arr 3 1 (intRows l)] [0] [.own 0] (.own 0) [.arr 3 1 (intRows (l.map told1))]:=by
 refine z64 19 Tryz.call74 Tryz.func74 rfl (by decide) [] [(0,0)] (by simp only [List.length_cons,List.length_nil];decide) (by kernel_rfl) fun J=>?_
 simp only [go_sem,St.startG,Tryz.ntmps74,Tryz.results74,List.map_cons,List.map_nil,List.range_succ]
 repeat (first|refine nx ?_|(refine z3 fun K hK=>?_;simp only [go_sem,z14];apply hK;clear hK K))
 refine z12 (fun (i:Nat)=>[(7,.d (.i i))]) (fun i=>[(19,some (.arr 3 1 (intRows ((l.take i).map told1++l.drop i))))]) (fun i=>i≤l.length) (fun i=>l.length - i) 0 ?_ (Nat.zero_le _) ?_
 ·simp only [go_sem]
  refine weA ?_ ?_ <;> simp
 ·intro i hi
  simp only [go_sem]
  repeat (first|refine nx ?_|(refine z3 fun K hK=>?_;simp only [go_sem];apply hK;clear hK K))
  refine z4 rfl (fun hb=>?_) (fun hb=>?_)
  ·have hlt:i<l.length:=by simpa using hb
   have hw:IntKind.i64.wrap ((i:Int) + 1)=((i + 1:Nat):Int):=by rw [z9 (by omega)];simp
   have hlen:=z1169 l i
   have g1:(intRows ((l.take i).map told1++l.drop i))[i]?=some [.i l[i]]:=by simp only [intRows,List.getElem?_map,z921 l i hlt,Option.map_some]
   have hn:=z1071 l i hlt
   repeat (first|refine nx ?_|(refine z3 fun K hK=>?_;simp only [go_sem,hlt,z14,hlen,g1,hw];apply hK;clear hK K))
   refine z4 rfl (fun hc=>?_) (fun hc=>?_)
   ·have hc:l[i]=never:=by simpa [never] using hc
    have ht:told1 l[i]=-1:=by unfold told1;rw [if_pos hc]
    rw [ht] at hn
    repeat (first|refine nx ?_|(refine z3 fun K hK=>?_;simp only [go_sem,hlt,z14,hlen,g1,hw];apply hK;clear hK K))
    refine⟨rfl,i + 1,?_,hlt,by omega⟩
    rw [← hn,← z44]
    refine weA ?_ ?_ <;> simp
   ·have hc:¬ l[i]=never:=by intro e;rw [e] at hc;simp [never] at hc
    have ht:told1 l[i]=l[i]:=by unfold told1;rw [if_neg hc]
    repeat (first|refine nx ?_|(refine z3 fun K hK=>?_;simp only [go_sem,hlt,z14,hlen,g1,hw];apply hK;clear hK K))
    refine⟨rfl,i + 1,?_,hlt,by omega⟩
    rw [ht,z1175 (z921 l i hlt)] at hn
    rw [← hn]
    refine weA ?_ ?_ <;> simp
  ·have he:i=l.length:=by have:¬ i<l.length:=by simpa using hb
                          omega
   subst he
   repeat (first|refine nx ?_|(refine z3 fun K hK=>?_;simp only [go_sem];apply hK;clear hK K))
   simp only [go_sem,List.take_length,List.drop_length]
end Go.Ab
namespace Go.Ab
open Go.RowKit Go.Proofs
attribute [local irreducible] WalkL Walk
structure Net.Small (n:Net):Prop where
 paths:n.paths.length<2 ^ 30
 opens:∀ x ∈ n.paths,x.opens.length<2 ^ 30
def wrong1 (n:Net) (x:Path):Bool :=
 !withinB x.frm 0 (n.places - 1) || (!withinB x.to 0 (n.places - 1) || (x.frm == x.to || (!withinB x.grade 1 6 || (!orderedB x.time 1 600 || (!orderedB x.snow 0 30 || decide ((x.opens.length:Int) > 6))))))
def wrongB (n:Net) (x:Path):Bool:=wrong1 n x || x.opens.any (fun s=>!orderedB s 0 2880)
theorem z1394 (n:Net) (x:Path) (hn:0≤n.places∧n.places<2 ^ 62) (hl:x.opens.length<2 ^ 30) :
  Fn Tryz.prog 70 [.agg x.row,.ptr [.fn 66 [.ptr n.cells 0]] 0,.ptr [.fn 68 []] 0] (.bool (wrongB n x)):=by
 refine z10 54 Tryz.call70 Tryz.func70 rfl (by decide) fun J=>?_
 simp only [go_sem,St.start,Tryz.ntmps70,Tryz.results70,Path.row,Net.cells]
 have h66:=fun s (_:s ∈ x.opens)=>z1395 s (.i 0)
 repeat (first|refine nx ?_|(refine z3 fun K hK=>?_;simp only [go_sem];apply hK;clear hK K))
 refine z23 [(4,.d (.bool (wrongB n x)))] [] ?_ ?_
 ·refine z3 fun K hK=>?_
  simp only [go_sem]
  refine⟨_,.lent (hf:=z1365 n x.frm hn) (hd:=rfl) (hr:=rfl),?_⟩
  simp only [go_sem]
  by_cases ho0:(!withinB x.frm 0 (n.places - 1))=true
  ·simp only [go_sem,ho0]
   apply hK
   clear hK K
   refine z11 ?_
   refine z6 ?_
   refine⟨rfl,?_⟩
   rw [show (wrongB n x)=(true) from by simp [wrongB,wrong1,ho0]]
   simp only [go_sem]
   refine weA ?_ ?_ <;> simp
  ·simp only [go_sem,ho0]
   refine⟨_,.lent (hf:=z1365 n x.to hn) (hd:=rfl) (hr:=rfl),?_⟩
   simp only [go_sem,ho0]
   by_cases ho1:(!withinB x.to 0 (n.places - 1))=true
   ·simp only [go_sem,ho0,ho1]
    apply hK
    clear hK K
    refine z11 ?_
    refine z6 ?_
    refine⟨rfl,?_⟩
    rw [show (wrongB n x)=(true) from by simp [wrongB,wrong1,ho0,ho1]]
    simp only [go_sem]
    refine weA ?_ ?_ <;> simp
   ·simp only [go_sem,ho0,ho1]
    by_cases ho2:(x.frm == x.to)=true
    ·simp only [go_sem,ho0,ho1,ho2]
     apply hK
     clear hK K
     refine z11 ?_
     refine z6 ?_
     refine⟨rfl,?_⟩
     rw [show (wrongB n x)=(true) from by simp [wrongB,wrong1,ho0,ho1,ho2]]
     simp only [go_sem]
     refine weA ?_ ?_ <;> simp
    ·simp only [go_sem,ho0,ho1,ho2]
     refine⟨_,.lent (hf:=z1059 x.grade 1 6) (hd:=rfl) (hr:=rfl),?_⟩
     simp only [go_sem,ho0,ho1,ho2]
     by_cases ho3:(!withinB x.grade 1 6)=true
     ·simp only [go_sem,ho0,ho1,ho2,ho3]
      apply hK
      clear hK K
      refine z11 ?_
      refine z6 ?_
      refine⟨rfl,?_⟩
      rw [show (wrongB n x)=(true) from by simp [wrongB,wrong1,ho0,ho1,ho2,ho3]]
      simp only [go_sem]
      refine weA ?_ ?_ <;> simp
     ·simp only [go_sem,ho0,ho1,ho2,ho3]
      refine⟨_,.lent (hf:=z1283 x.time 1 600) (hd:=rfl) (hr:=rfl),?_⟩
      simp only [go_sem,ho0,ho1,ho2,ho3]
      by_cases ho4:(!orderedB x.time 1 600)=true
      ·simp only [go_sem,ho0,ho1,ho2,ho3,ho4]
       apply hK
       clear hK K
       refine z11 ?_
       refine z6 ?_
       refine⟨rfl,?_⟩
       rw [show (wrongB n x)=(true) from by simp [wrongB,wrong1,ho0,ho1,ho2,ho3,ho4]]
       simp only [go_sem]
       refine weA ?_ ?_ <;> simp
      ·simp only [go_sem,ho0,ho1,ho2,ho3,ho4]
       refine⟨_,.lent (hf:=z1283 x.snow 0 30) (hd:=rfl) (hr:=rfl),?_⟩
       simp only [go_sem,ho0,ho1,ho2,ho3,ho4]
       by_cases ho5:(!orderedB x.snow 0 30)=true
       ·simp only [go_sem,ho0,ho1,ho2,ho3,ho4,ho5]
        apply hK
        clear hK K
        refine z11 ?_
        refine z6 ?_
        refine⟨rfl,?_⟩
        rw [show (wrongB n x)=(true) from by simp [wrongB,wrong1,ho0,ho1,ho2,ho3,ho4,ho5]]
        simp only [go_sem]
        refine weA ?_ ?_ <;> simp
       ·simp only [go_sem,ho0,ho1,ho2,ho3,ho4,ho5]
        by_cases ho6:(decide ((x.opens.length:Int) > 6))=true
        ·simp only [go_sem,ho0,ho1,ho2,ho3,ho4,ho5,ho6]
         apply hK
         clear hK K
         refine z11 ?_
         refine z6 ?_
         refine⟨rfl,?_⟩
         rw [show (wrongB n x)=(true) from by simp [wrongB,wrong1,ho0,ho1,ho2,ho3,ho4,ho5,ho6]]
         simp only [go_sem]
         refine weA ?_ ?_ <;> simp
        ·simp only [go_sem,ho0,ho1,ho2,ho3,ho4,ho5,ho6]
         refine⟨_,.lent (hf:=z1393 x.opens 68 [] _ h66 (by omega)) (hd:=rfl) (hr:=rfl),?_⟩
         simp only [go_sem,ho0,ho1,ho2,ho3,ho4,ho5,ho6]
         apply hK
         clear hK K
         refine z11 ?_
         refine z6 ?_
         refine⟨rfl,?_⟩
         rw [show (wrongB n x)=(x.opens.any (fun s=>!orderedB s 0 2880)) from by simp [wrongB,wrong1,ho0,ho1,ho2,ho3,ho4,ho5,ho6]]
         simp only [go_sem]
         refine weA ?_ ?_ <;> simp
 ·simp only [go_sem]
  repeat (first|refine nx ?_|(refine z3 fun K hK=>?_;simp only [go_sem];apply hK;clear hK K))
  simp only [go_sem]
def badNet (n:Net):Bool:=!withinB n.places 1 12 || (decide ((n.paths.length:Int) > 24) || n.paths.any (wrongB n))
def checkF (n:Net):Int:=if badNet n then 10 else 0
theorem z20 {x lo hi:Int}:withinB x lo hi=true↔lo≤x∧x≤hi:=by simp [withinB]
theorem z1327 (n:Net) (hs:n.Small):Fn Tryz.prog 47 [.agg n.cells] (.i (checkF n)):=by
 refine z10 24 Tryz.call47 Tryz.func47 rfl (by decide) fun J=>?_
 simp only [go_sem,St.start,Tryz.ntmps47,Tryz.results47,Net.cells]
 have h68:withinB n.places 1 12=true→∀ x ∈ n.paths,Fn Tryz.prog 70 [.agg x.row,.ptr [.fn 66 [.ptr n.cells 0]] 0,.ptr [.fn 68 []] 0] (.bool (wrongB n x)):=fun h x hx =>
  z1394 n x (by have:=z20.1 h;omega) (hs.opens x hx)
 have h70:=fun h=>z1392 n.paths 70 [.ptr [.fn 66 [.ptr n.cells 0]] 0,.ptr [.fn 68 []] 0] (wrongB n) (h68 h) (Nat.lt_trans hs.paths (by decide))
 repeat (first|refine nx ?_|(refine z3 fun K hK=>?_;simp only [go_sem];apply hK;clear hK K))
 refine z23 [(23,.d (.bool (badNet n)))] [] ?_ ?_
 ·refine z3 fun K hK=>?_
  simp only [go_sem]
  refine⟨_,.lent (hf:=z1059 n.places 1 12) (hd:=rfl) (hr:=rfl),?_⟩
  simp only [go_sem]
  by_cases ho0:(!withinB n.places 1 12)=true
  ·simp only [go_sem,ho0]
   apply hK
   clear hK K
   refine z11 ?_
   refine z6 ?_
   refine⟨rfl,?_⟩
   rw [show (badNet n)=(true) from by simp [badNet,ho0]]
   simp only [go_sem]
   refine weA ?_ ?_ <;> simp
  ·simp only [go_sem,ho0]
   by_cases ho1:(decide ((n.paths.length:Int) > 24))=true
   ·simp only [go_sem,ho0,ho1]
    apply hK
    clear hK K
    refine z11 ?_
    refine z6 ?_
    refine⟨rfl,?_⟩
    rw [show (badNet n)=(true) from by simp [badNet,ho0,ho1]]
    simp only [go_sem]
    refine weA ?_ ?_ <;> simp
   ·simp only [go_sem,ho0,ho1]
    refine⟨_,.lent (hf:=h70 (by simpa using ho0)) (hd:=rfl) (hr:=rfl),?_⟩
    simp only [go_sem,ho0,ho1]
    apply hK
    clear hK K
    refine z11 ?_
    refine z6 ?_
    refine⟨rfl,?_⟩
    rw [show (badNet n)=(n.paths.any (wrongB n)) from by simp [badNet,ho0,ho1]]
    simp only [go_sem]
    refine weA ?_ ?_ <;> simp
 ·simp only [go_sem]
  repeat (first|refine nx ?_|(refine z3 fun K hK=>?_;simp only [go_sem];apply hK;clear hK K))
  refine z4 rfl (fun hc=>?_) (fun hc=>?_)
  ·repeat (first|refine nx ?_|(refine z3 fun K hK=>?_;simp only [go_sem];apply hK;clear hK K))
   simp only [go_sem,checkF,hc]
  ·repeat (first|refine nx ?_|(refine z3 fun K hK=>?_;simp only [go_sem];apply hK;clear hK K))
   simp only [go_sem,checkF,hc]
end Go.Ab
namespace Go.Ab
open Go.RowKit Go.Proofs
set_option maxHeartbeats 4000000
attribute [local irreducible] WalkL Walk
theorem z89 {α:Type} {q:α→Bool} {l:List α} {i:Nat} {x:α} (h:l[i]?=some x) (h0:(l.take i).any q=false) (hx:q x=false):(l.take (i + 1)).any q=false:=by
 rw [List.take_add_one,h,List.any_append,h0];simp [hx]
theorem z125 {α:Type} {q:α→Bool} {l:List α} {i:Nat} {x:α} (h:l[i]?=some x) (hx:q x=true):l.any q=true:=List.any_eq_true.2 ⟨x,List.mem_of_getElem? h,hx⟩
theorem z1330 (n:Net) (hs:n.Small):Fn Tryz.prog 16 [.agg n.cells] (.i (checkF n)):=by
 refine z10 85 Tryz.call16 Tryz.func16 rfl (by decide) fun J=>?_
 simp only [go_sem,St.start,Tryz.ntmps16,Tryz.results16,Net.cells]
 repeat (first|refine nx ?_|(refine z3 fun K hK=>?_;simp only [go_sem];apply hK;clear hK K))
 refine z23 [(15,.d (.bool (!withinB n.places 1 12 || decide ((n.paths.length:Int) > 24))))] [] ?_ ?_
 ·refine z3 fun K hK=>?_
  simp only [go_sem]
  refine⟨_,.lent (hf:=z1240 n.places 1 12) (hd:=rfl) (hr:=rfl),?_⟩
  simp only [go_sem]
  by_cases ho0:(!withinB n.places 1 12)=true
  ·simp only [go_sem,ho0]
   apply hK
   clear hK K
   refine z11 ?_
   refine z6 ?_
   refine⟨rfl,?_⟩
   rw [show (!withinB n.places 1 12 || decide ((n.paths.length:Int) > 24))=(true) from by simp [ho0]]
   simp only [go_sem]
   refine weA ?_ ?_ <;> simp
  ·simp only [go_sem,ho0]
   apply hK
   clear hK K
   refine z11 ?_
   refine z6 ?_
   refine⟨rfl,?_⟩
   rw [show (!withinB n.places 1 12 || decide ((n.paths.length:Int) > 24))=(decide ((n.paths.length:Int) > 24)) from by simp [ho0]]
   simp only [go_sem]
   refine weA ?_ ?_ <;> simp
 simp only [go_sem]
 refine z4 rfl (fun hc=>?_) (fun hc=>?_)
 ·repeat (first|refine nx ?_|(refine z3 fun K hK=>?_;simp only [go_sem];apply hK;clear hK K))
  have hb:badNet n=true:=by unfold badNet;rw [← Bool.or_assoc,hc];rfl
  simp only [go_sem,checkF,hb]
 ·rw [Bool.or_eq_false_iff] at hc
  have hpl:=z20.1 (show withinB n.places 1 12=true by simpa using hc.1)
  have hbad:badNet n=n.paths.any (wrongB n):=by unfold badNet;rw [← Bool.or_assoc,hc.1,hc.2];rfl
  repeat (first|refine nx ?_|(refine z3 fun K hK=>?_;simp only [go_sem];apply hK;clear hK K))
  refine z12 (fun (i:Nat)=>[(3,.d (.i i))]) (fun _=>[]) (fun i=>i≤n.paths.length∧(n.paths.take i).any (wrongB n)=false) (fun i=>n.paths.length - i) 0 ?_ ⟨Nat.zero_le _,rfl⟩ ?_
  ·simp only [go_sem]
   refine weA ?_ ?_ <;> simp
  ·intro i ⟨hi,hall⟩
   have hbound:=hs.paths
   simp only [go_sem]
   repeat (first|refine nx ?_|(refine z3 fun K hK=>?_;simp only [go_sem];apply hK;clear hK K))
   refine z4 rfl (fun hb=>?_) (fun hb=>?_)
   ·have hlt:i<n.paths.length:=by simpa using hb
    have hw:IntKind.i64.wrap ((i:Int) + 1)=((i + 1:Nat):Int):=by rw [z9 (by omega)];simp
    obtain⟨x,hx⟩:∃ x,n.paths[i]?=some x:=⟨_,List.getElem?_eq_getElem hlt⟩
    have hxo:=hs.opens x (List.mem_of_getElem? hx)
    have hp62:-(2 ^ 62)≤n.places∧n.places<2 ^ 62:=by omega
    repeat (first|refine nx ?_|(refine z3 fun K hK=>?_;simp only [go_sem,hx,List.getElem?_map,Path.row];apply hK;clear hK K))
    refine z23 [(70,.d (.bool (wrong1 n x)))] [] ?_ ?_
    ·refine z3 fun K hK=>?_
     simp only [go_sem]
     refine⟨_,.lent (hf:=z1316 n x.frm hp62) (hd:=rfl) (hr:=rfl),?_⟩
     simp only [go_sem]
     by_cases ho0:(!withinB x.frm 0 (n.places - 1))=true
     ·simp only [go_sem,ho0]
      apply hK
      clear hK K
      refine z11 ?_
      refine z6 ?_
      refine⟨rfl,?_⟩
      rw [show (wrong1 n x)=(true) from by simp [wrong1,ho0]]
      simp only [go_sem]
      refine weA ?_ ?_ <;> simp
     ·simp only [go_sem,ho0]
      refine⟨_,.lent (hf:=z1316 n x.to hp62) (hd:=rfl) (hr:=rfl),?_⟩
      simp only [go_sem,ho0]
      by_cases ho1:(!withinB x.to 0 (n.places - 1))=true
      ·simp only [go_sem,ho0,ho1]
       apply hK
       clear hK K
       refine z11 ?_
       refine z6 ?_
       refine⟨rfl,?_⟩
       rw [show (wrong1 n x)=(true) from by simp [wrong1,ho0,ho1]]
       simp only [go_sem]
       refine weA ?_ ?_ <;> simp
      ·simp only [go_sem,ho0,ho1]
       by_cases ho2:(x.frm == x.to)=true
       ·simp only [go_sem,ho0,ho1,ho2]
        apply hK
        clear hK K
        refine z11 ?_
        refine z6 ?_
        refine⟨rfl,?_⟩
        rw [show (wrong1 n x)=(true) from by simp [wrong1,ho0,ho1,ho2]]
        simp only [go_sem]
        refine weA ?_ ?_ <;> simp
       ·simp only [go_sem,ho0,ho1,ho2]
        refine⟨_,.lent (hf:=z1240 x.grade 1 6) (hd:=rfl) (hr:=rfl),?_⟩
        simp only [go_sem,ho0,ho1,ho2]
        by_cases ho3:(!withinB x.grade 1 6)=true
        ·simp only [go_sem,ho0,ho1,ho2,ho3]
         apply hK
         clear hK K
         refine z11 ?_
         refine z6 ?_
         refine⟨rfl,?_⟩
         rw [show (wrong1 n x)=(true) from by simp [wrong1,ho0,ho1,ho2,ho3]]
         simp only [go_sem]
         refine weA ?_ ?_ <;> simp
        ·simp only [go_sem,ho0,ho1,ho2,ho3]
         refine⟨_,.lent (hf:=z1284 x.time 1 600) (hd:=rfl) (hr:=rfl),?_⟩
         simp only [go_sem,ho0,ho1,ho2,ho3]
         by_cases ho4:(!orderedB x.time 1 600)=true
         ·simp only [go_sem,ho0,ho1,ho2,ho3,ho4]
          apply hK
          clear hK K
          refine z11 ?_
          refine z6 ?_
          refine⟨rfl,?_⟩
          rw [show (wrong1 n x)=(true) from by simp [wrong1,ho0,ho1,ho2,ho3,ho4]]
          simp only [go_sem]
          refine weA ?_ ?_ <;> simp
         ·simp only [go_sem,ho0,ho1,ho2,ho3,ho4]
          refine⟨_,.lent (hf:=z1284 x.snow 0 30) (hd:=rfl) (hr:=rfl),?_⟩
          simp only [go_sem,ho0,ho1,ho2,ho3,ho4]
          by_cases ho5:(!orderedB x.snow 0 30)=true
          ·simp only [go_sem,ho0,ho1,ho2,ho3,ho4,ho5]
           apply hK
           clear hK K
           refine z11 ?_
           refine z6 ?_
           refine⟨rfl,?_⟩
           rw [show (wrong1 n x)=(true) from by simp [wrong1,ho0,ho1,ho2,ho3,ho4,ho5]]
           simp only [go_sem]
           refine weA ?_ ?_ <;> simp
          ·simp only [go_sem,ho0,ho1,ho2,ho3,ho4,ho5]
           apply hK
           clear hK K
           refine z11 ?_
           refine z6 ?_
           refine⟨rfl,?_⟩
           rw [show (wrong1 n x)=(decide ((x.opens.length:Int) > 6)) from by simp [wrong1,ho0,ho1,ho2,ho3,ho4,ho5]]
           simp only [go_sem]
           refine weA ?_ ?_ <;> simp
    simp only [go_sem]
    refine z4 rfl (fun hc1=>?_) (fun hc1=>?_)
    ·repeat (first|refine nx ?_|(refine z3 fun K hK=>?_;simp only [go_sem];apply hK;clear hK K))
     have hb:badNet n=true:=by rw [hbad];exact z125 hx (by unfold wrongB;rw [hc1];rfl)
     simp only [go_sem,checkF,hb]
    ·repeat (first|refine nx ?_|(refine z3 fun K hK=>?_;simp only [go_sem];apply hK;clear hK K))
     refine z12 (fun (k:Nat)=>[(5,.d (.i k))]) (fun _=>[]) (fun k=>k≤x.opens.length∧(x.opens.take k).any (fun s=>!orderedB s 0 2880)=false) (fun k=>x.opens.length - k) 0 ?_ ⟨Nat.zero_le _,rfl⟩ ?_
     ·simp only [go_sem]
      refine weA ?_ ?_ <;> simp
     ·intro k ⟨hk,hkall⟩
      simp only [go_sem]
      repeat (first|refine nx ?_|(refine z3 fun K hK=>?_;simp only [go_sem];apply hK;clear hK K))
      refine z4 rfl (fun hb=>?_) (fun hb=>?_)
      ·have hlk:k<x.opens.length:=by simpa using hb
       have hwk:IntKind.i64.wrap ((k:Int) + 1)=((k + 1:Nat):Int):=by rw [z9 (by omega)];simp
       obtain⟨s,hs1⟩:∃ s,x.opens[k]?=some s:=⟨_,List.getElem?_eq_getElem hlk⟩
       repeat (first|refine nx ?_|(refine z3 fun K hK=>?_;simp only [go_sem,hs1,List.getElem?_map,Span.row];(repeat (first|(refine⟨_,.lent (hf:=z1284 s 0 2880) (hd:=rfl) (hr:=rfl),?_⟩;simp only [go_sem,hs1,List.getElem?_map,Span.row])|(refine⟨_,.given (hf:=z1284 s 0 2880) (hd:=rfl) (ha:=rfl),?_⟩;simp only [go_sem,hs1,List.getElem?_map,Span.row])));apply hK;clear hK K))
       refine z4 rfl (fun hc2=>?_) (fun hc2=>?_)
       ·repeat (first|refine nx ?_|(refine z3 fun K hK=>?_;simp only [go_sem];apply hK;clear hK K))
        have hb:badNet n=true:=by rw [hbad];exact z125 hx (by unfold wrongB;rw [z125 hs1 hc2];simp)
        simp only [go_sem,checkF,hb]
       ·repeat (first|refine nx ?_|(refine z3 fun K hK=>?_;simp only [go_sem,hwk];apply hK;clear hK K))
        refine⟨rfl,k + 1,?_,⟨hlk,z89 hs1 hkall hc2⟩,by omega⟩
        refine weA ?_ ?_ <;> simp
      ·have he:k=x.opens.length:=by (have:¬ k<x.opens.length:=by simpa using hb);omega
       subst he
       rw [List.take_length] at hkall
       repeat (first|refine nx ?_|(refine z3 fun K hK=>?_;simp only [go_sem,hw];apply hK;clear hK K))
       refine⟨rfl,i + 1,?_,⟨hlt,z89 hx hall (by unfold wrongB;rw [hc1,hkall];rfl)⟩,by omega⟩
       refine weA ?_ ?_ <;> simp
   ·have he:i=n.paths.length:=by (have:¬ i<n.paths.length:=by simpa using hb);omega
    subst he
    rw [List.take_length] at hall
    repeat (first|refine nx ?_|(refine z3 fun K hK=>?_;simp only [go_sem];apply hK;clear hK K))
    have hb:badNet n=false:=by rw [hbad,hall]
    simp only [go_sem,checkF,hb]
end Go.Ab
namespace Go.Ab
open Go.RowKit Go.Proofs
set_option maxHeartbeats 4000000
attribute [local irreducible] WalkL Walk
def badParty (p:Party):Bool:=!withinB p.grade 1 6 || (!orderedB p.pace 50 300 || !withinB p.load 0 40)
def checkPartyF (n:Net) (p:Party):Int:=if badNet n then 10 else if badParty p then 11 else 0
theorem z1378 (n:Net) (p:Party) (hs:n.Small):Fn Tryz.prog 22 [.agg n.cells,.agg p.cells] (.i (checkPartyF n p)):=by
 refine z10 27 Tryz.call22 Tryz.func22 rfl (by decide) fun J=>?_
 simp only [go_sem,St.start,Tryz.ntmps22,Tryz.results22,Net.cells,Party.cells]
 repeat (first|refine nx ?_|(refine z3 fun K hK=>?_;simp only [go_sem];(repeat (first|(refine⟨_,.lent (hf:=z1330 n hs) (hd:=rfl) (hr:=rfl),?_⟩;simp only [go_sem])|(refine⟨_,.given (hf:=z1330 n hs) (hd:=rfl) (ha:=rfl),?_⟩;simp only [go_sem])));apply hK;clear hK K))
 by_cases hb:badNet n=true
 ·try simp only [go_sem,checkF,hb]
  refine z8 rfl ?_
  repeat (first|refine nx ?_|(refine z3 fun K hK=>?_;simp only [go_sem];apply hK;clear hK K))
  simp only [go_sem,checkPartyF,hb]
 ·try simp only [go_sem,checkF,hb]
  refine z5 rfl ?_
  repeat (first|refine nx ?_|(refine z3 fun K hK=>?_;simp only [go_sem];apply hK;clear hK K))
  refine z23 [(26,.d (.bool (badParty p)))] [] ?_ ?_
  ·refine z3 fun K hK=>?_
   simp only [go_sem]
   refine⟨_,.lent (hf:=z1240 p.grade 1 6) (hd:=rfl) (hr:=rfl),?_⟩
   simp only [go_sem]
   by_cases ho0:(!withinB p.grade 1 6)=true
   ·simp only [go_sem,ho0]
    apply hK
    clear hK K
    refine z11 ?_
    refine z6 ?_
    refine⟨rfl,?_⟩
    rw [show (badParty p)=(true) from by simp [badParty,ho0]]
    simp only [go_sem]
    refine weA ?_ ?_ <;> simp
   ·simp only [go_sem,ho0]
    refine⟨_,.lent (hf:=z1284 p.pace 50 300) (hd:=rfl) (hr:=rfl),?_⟩
    simp only [go_sem,ho0]
    by_cases ho1:(!orderedB p.pace 50 300)=true
    ·simp only [go_sem,ho0,ho1]
     apply hK
     clear hK K
     refine z11 ?_
     refine z6 ?_
     refine⟨rfl,?_⟩
     rw [show (badParty p)=(true) from by simp [badParty,ho0,ho1]]
     simp only [go_sem]
     refine weA ?_ ?_ <;> simp
    ·simp only [go_sem,ho0,ho1]
     refine⟨_,.lent (hf:=z1240 p.load 0 40) (hd:=rfl) (hr:=rfl),?_⟩
     simp only [go_sem,ho0,ho1]
     apply hK
     clear hK K
     refine z11 ?_
     refine z6 ?_
     refine⟨rfl,?_⟩
     rw [show (badParty p)=(!withinB p.load 0 40) from by simp [badParty,ho0,ho1]]
     simp only [go_sem]
     refine weA ?_ ?_ <;> simp
  simp only [go_sem]
  refine z4 rfl (fun hc=>?_) (fun hc=>?_)
  ·repeat (first|refine nx ?_|(refine z3 fun K hK=>?_;simp only [go_sem];apply hK;clear hK K))
   simp only [go_sem,checkPartyF,hb,hc]
  ·repeat (first|refine nx ?_|(refine z3 fun K hK=>?_;simp only [go_sem];apply hK;clear hK K))
   simp only [go_sem,checkPartyF,hb,hc]
theorem z1362 (n:Net) (p:Party) (hs:n.Small):Fn Tryz.prog 78 [.agg n.cells,.agg p.cells] (.tup [.agg (walkCells n p),.i (checkPartyF n p)]):=by
 refine z10 35 Tryz.call78 Tryz.func78 rfl (by decide) fun J=>?_
 simp only [go_sem,St.start,Tryz.ntmps78,Tryz.results78,Net.cells,Party.cells,walkCells]
 repeat (first|refine nx ?_|(refine z3 fun K hK=>?_;simp only [go_sem];(repeat (first|(refine⟨_,.lent (hf:=z1327 n hs) (hd:=rfl) (hr:=rfl),?_⟩;simp only [go_sem])|(refine⟨_,.given (hf:=z1327 n hs) (hd:=rfl) (ha:=rfl),?_⟩;simp only [go_sem])));apply hK;clear hK K))
 by_cases hb:badNet n=true
 ·try simp only [go_sem,checkF,hb]
  refine z8 rfl ?_
  repeat (first|refine nx ?_|(refine z3 fun K hK=>?_;simp only [go_sem];apply hK;clear hK K))
  simp only [go_sem,checkPartyF,hb,walkCells]
 ·try simp only [go_sem,checkF,hb]
  refine z5 rfl ?_
  repeat (first|refine nx ?_|(refine z3 fun K hK=>?_;simp only [go_sem];apply hK;clear hK K))
  refine z23 [(32,.d (.bool (badParty p)))] [] ?_ ?_
  ·refine z3 fun K hK=>?_
   simp only [go_sem]
   refine⟨_,.lent (hf:=z1059 p.grade 1 6) (hd:=rfl) (hr:=rfl),?_⟩
   simp only [go_sem]
   by_cases ho0:(!withinB p.grade 1 6)=true
   ·simp only [go_sem,ho0]
    apply hK
    clear hK K
    refine z11 ?_
    refine z6 ?_
    refine⟨rfl,?_⟩
    rw [show (badParty p)=(true) from by simp [badParty,ho0]]
    simp only [go_sem]
    refine weA ?_ ?_ <;> simp
   ·simp only [go_sem,ho0]
    refine⟨_,.lent (hf:=z1283 p.pace 50 300) (hd:=rfl) (hr:=rfl),?_⟩
    simp only [go_sem,ho0]
    by_cases ho1:(!orderedB p.pace 50 300)=true
    ·simp only [go_sem,ho0,ho1]
     apply hK
     clear hK K
     refine z11 ?_
     refine z6 ?_
     refine⟨rfl,?_⟩
     rw [show (badParty p)=(true) from by simp [badParty,ho0,ho1]]
     simp only [go_sem]
     refine weA ?_ ?_ <;> simp
    ·simp only [go_sem,ho0,ho1]
     refine⟨_,.lent (hf:=z1059 p.load 0 40) (hd:=rfl) (hr:=rfl),?_⟩
     simp only [go_sem,ho0,ho1]
     apply hK
     clear hK K
     refine z11 ?_
     refine z6 ?_
     refine⟨rfl,?_⟩
     rw [show (badParty p)=(!withinB p.load 0 40) from by simp [badParty,ho0,ho1]]
     simp only [go_sem]
     refine weA ?_ ?_ <;> simp
  simp only [go_sem]
  refine z4 rfl (fun hc=>?_) (fun hc=>?_)
  ·repeat (first|refine nx ?_|(refine z3 fun K hK=>?_;simp only [go_sem];apply hK;clear hK K))
   simp only [go_sem,checkPartyF,hb,hc,walkCells]
  ·repeat (first|refine nx ?_|(refine z3 fun K hK=>?_;simp only [go_sem];apply hK;clear hK K))
   simp only [go_sem,checkPartyF,hb,hc,walkCells]
theorem z1386 (n:Net) (x:Int) (hn:0≤n.places∧n.places<2 ^ 62):Fn Tryz.prog 94 [.i x,.ptr n.cells 0] (.bool (!withinB x 0 (n.places - 1))):=by
 refine z10 10 Tryz.call94 Tryz.func94 rfl (by decide) fun J=>?_
 simp only [go_sem,St.start,Tryz.ntmps94,Tryz.results94,Net.cells]
 have hw:IntKind.i64.wrap (n.places - 1)=n.places - 1:=z9 (by omega)
 repeat (first|refine nx ?_|(refine z3 fun K hK=>?_;simp only [go_sem,hw];(repeat (first|(refine⟨_,.lent (hf:=z1059 _ _ _) (hd:=rfl) (hr:=rfl),?_⟩;simp only [go_sem,hw])|(refine⟨_,.given (hf:=z1059 _ _ _) (hd:=rfl) (ha:=rfl),?_⟩;simp only [go_sem,hw])));apply hK;clear hK K))
 simp only [go_sem]
theorem z1385 (x:Int):Fn Tryz.prog 95 [.i x] (.bool (!withinB x 0 2880)):=by
 refine z10 6 Tryz.call95 Tryz.func95 rfl (by decide) fun J=>?_
 simp only [go_sem,St.start,Tryz.ntmps95,Tryz.results95]
 repeat (first|refine nx ?_|(refine z3 fun K hK=>?_;simp only [go_sem];(repeat (first|(refine⟨_,.lent (hf:=z1059 _ _ _) (hd:=rfl) (hr:=rfl),?_⟩;simp only [go_sem])|(refine⟨_,.given (hf:=z1059 _ _ _) (hd:=rfl) (ha:=rfl),?_⟩;simp only [go_sem])));apply hK;clear hK K))
 simp only [go_sem]
def badAsk (n:Net) (places minutes:List Int):Bool:=places.any (fun x=>!withinB x 0 (n.places - 1)) || minutes.any (fun x=>!withinB x 0 2880)
def openF (n:Net) (p:Party) (places minutes:List Int):Int:=if badNet n then 10 else if badParty p then 11 else if badAsk n places minutes then 1 else 0
theorem z222 {n:Net} (h:¬ badNet n=true):1≤n.places∧n.places≤12:=by
 have:badNet n=false:=by simpa using h
 unfold badNet at this
 rw [Bool.or_eq_false_iff] at this
 exact z20.1 (by simpa using this.1)
theorem z1391 (n:Net) (p:Party) (places minutes:List Int) (hs:n.Small) (h1:places.length<2 ^ 62) (h2:minutes.length<2 ^ 62) :
  Fn Tryz.prog 73 [.agg n.cells,.agg p.cells,.agg [.sl (intRows places),.sl (intRows minutes)]] (.tup [.agg (walkCells n p),.i (openF n p places minutes)]):=by
 refine z10 31 Tryz.call73 Tryz.func73 rfl (by decide) fun J=>?_
 simp only [go_sem,St.start,Tryz.ntmps73,Tryz.results73,Net.cells,Party.cells]
 have h73:=z1362 n p hs
 by_cases hb:badNet n=true
 ·repeat (first|refine nx ?_|(refine z3 fun K hK=>?_;simp only [go_sem,checkPartyF,hb,walkCells];(repeat (first|(refine⟨_,.lent (hf:=h73) (hd:=rfl) (hr:=rfl),?_⟩;simp only [go_sem,checkPartyF,hb,walkCells])|(refine⟨_,.given (hf:=h73) (hd:=rfl) (ha:=rfl),?_⟩;simp only [go_sem,checkPartyF,hb,walkCells])));apply hK;clear hK K))
  try simp only [go_sem,checkPartyF,hb]
  refine z8 rfl ?_
  repeat (first|refine nx ?_|(refine z3 fun K hK=>?_;simp only [go_sem,walkCells];apply hK;clear hK K))
  simp only [go_sem,openF,hb,walkCells]
 ·by_cases hp:badParty p=true
  ·repeat (first|refine nx ?_|(refine z3 fun K hK=>?_;simp only [go_sem,checkPartyF,hb,hp,walkCells];(repeat (first|(refine⟨_,.lent (hf:=h73) (hd:=rfl) (hr:=rfl),?_⟩;simp only [go_sem,checkPartyF,hb,hp,walkCells])|(refine⟨_,.given (hf:=h73) (hd:=rfl) (ha:=rfl),?_⟩;simp only [go_sem,checkPartyF,hb,hp,walkCells])));apply hK;clear hK K))
   try simp only [go_sem,checkPartyF,hb,hp]
   refine z8 rfl ?_
   repeat (first|refine nx ?_|(refine z3 fun K hK=>?_;simp only [go_sem,walkCells];apply hK;clear hK K))
   simp only [go_sem,openF,hb,hp,walkCells]
  ·have hg:=z222 hb
   have h84:=fun x (_:x ∈ places)=>z1386 n x (by omega)
   have h85:=fun x (_:x ∈ minutes)=>z1385 x
   repeat (first|refine nx ?_|(refine z3 fun K hK=>?_;simp only [go_sem,checkPartyF,hb,hp,walkCells];(repeat (first|(refine⟨_,.lent (hf:=h73) (hd:=rfl) (hr:=rfl),?_⟩;simp only [go_sem,checkPartyF,hb,hp,walkCells])|(refine⟨_,.given (hf:=h73) (hd:=rfl) (ha:=rfl),?_⟩;simp only [go_sem,checkPartyF,hb,hp,walkCells])));apply hK;clear hK K))
   try simp only [go_sem,checkPartyF,hb,hp,walkCells]
   refine z5 rfl ?_
   repeat (first|refine nx ?_|(refine z3 fun K hK=>?_;simp only [go_sem];apply hK;clear hK K))
   refine z23 [(28,.d (.bool (badAsk n places minutes)))] [] ?_ ?_
   ·refine z3 fun K hK=>?_
    simp only [go_sem]
    refine⟨_,.lent (hf:=z1325 places 94 [.ptr n.cells 0] _ h84 h1) (hd:=rfl) (hr:=rfl),?_⟩
    simp only [go_sem]
    by_cases ho0:(places.any (fun x=>!withinB x 0 (n.places - 1)))=true
    ·simp only [go_sem,ho0]
     apply hK
     clear hK K
     refine z11 ?_
     refine z6 ?_
     refine⟨rfl,?_⟩
     rw [show (badAsk n places minutes)=(true) from by simp [badAsk,ho0]]
     simp only [go_sem]
     refine weA ?_ ?_ <;> simp
    ·simp only [go_sem,ho0]
     refine⟨_,.lent (hf:=z1325 minutes 95 [] _ h85 h2) (hd:=rfl) (hr:=rfl),?_⟩
     simp only [go_sem,ho0]
     apply hK
     clear hK K
     refine z11 ?_
     refine z6 ?_
     refine⟨rfl,?_⟩
     rw [show (badAsk n places minutes)=(minutes.any (fun x=>!withinB x 0 2880)) from by simp [badAsk,ho0]]
     simp only [go_sem]
     refine weA ?_ ?_ <;> simp
   simp only [go_sem]
   refine z4 rfl (fun hc=>?_) (fun hc=>?_)
   ·repeat (first|refine nx ?_|(refine z3 fun K hK=>?_;simp only [go_sem];apply hK;clear hK K))
    simp only [go_sem,openF,hb,hp,hc,walkCells]
   ·repeat (first|refine nx ?_|(refine z3 fun K hK=>?_;simp only [go_sem];apply hK;clear hK K))
    simp only [go_sem,openF,hb,hp,hc,walkCells]
theorem z208 {l:List Int} {i:Nat} {x:Int} (h:l[i]?=some x):(intRows l)[i]?=some [.i x]:=by simp [intRows,h]
end Go.Ab
namespace Go.Ab
open Go.RowKit Go.Proofs
set_option maxHeartbeats 4000000
set_option maxRecDepth 20000
attribute [local irreducible] WalkL Walk
def iterL {α:Type} (f:α→α):Nat→α→α
 | 0,a=>a
 | k + 1,a=>f (iterL f k a)
def relaxB (p:Party) (but:Int) (l:List Int) (w:Path × Nat):Bool:=((w.2:Int) != but) && (decide (w.1.grade≤p.grade) && decide (getI l w.1.frm<1073741824))
def relaxT (p:Party) (high:Bool) (but:Int) (l:List Int) (w:Path × Nat):List Int :=
 if relaxB p but l w then l.set w.1.to.toNat (min (getI l w.1.to) (stepF w.1 p (getI l w.1.frm) high)) else l
def passT (n:Net) (p:Party) (high:Bool) (but:Int) (l:List Int):List Int:=n.paths.zipIdx.foldl (relaxT p high but) l
def tableL (n:Net) (p:Party) (frm start:Int) (high:Bool) (but:Int):List Int:=iterL (passT n p high but) n.places.toNat (arrivals0 n frm start)
end Go.Ab
namespace Go.Ab
open Go.RowKit Go.Proofs
set_option maxHeartbeats 4000000
set_option maxRecDepth 20000
attribute [local irreducible] WalkL Walk
def sureF (n:Net) (p:Party) (frm start to but:Int):Int:=getI (tableL n p frm start true but) to
def shown1 (t:Int):Int:=if t ≥ never then -1 else t
def untilL (d:Int) (l:List Int):List Int:=(l.zipIdx.filter fun x=>decide (x.1≤d)).map fun x=>(x.2:Int)
end Go.Ab
namespace Go.Ab
open Go.RowKit Go.Proofs
set_option maxHeartbeats 4000000
set_option maxRecDepth 20000
attribute [local irreducible] WalkL Walk
theorem z164 {s:Span} {lo hi:Int}:orderedB s lo hi=true↔lo≤s.lo∧s.lo≤s.hi∧s.hi≤hi:=by simp [orderedB]
structure Path.Good (n:Net) (x:Path):Prop where
 frm:0≤x.frm∧x.frm<n.places
 to:0≤x.to∧x.to<n.places
 ne:x.frm≠x.to
 grade:1≤x.grade∧x.grade≤6
 time:1≤x.time.lo∧x.time.lo≤x.time.hi∧x.time.hi≤600
 snow:0≤x.snow.lo∧x.snow.lo≤x.snow.hi∧x.snow.hi≤30
 len:x.opens.length≤6
 opens:∀ s ∈ x.opens,0≤s.lo∧s.lo≤s.hi∧s.hi≤2880
structure Net.Good (n:Net):Prop where
 places:1≤n.places∧n.places≤12
 paths:n.paths.length≤24
 path:∀ x ∈ n.paths,x.Good n
theorem z579 {n:Net} {x:Path}:wrongB n x=false↔x.Good n:=by
 unfold wrongB wrong1
 simp only [Bool.or_eq_false_iff,Bool.not_eq_false',z20,z164,beq_eq_false_iff_ne,decide_eq_false_iff_not,List.any_eq_false,Bool.not_eq_true']
 constructor
 ·rintro⟨⟨h1,h2,h3,h4,h5,h6,h7⟩,h8⟩
  exact⟨by omega,by omega,h3,h4,h5,h6,by omega,fun s hs=>z164.1 (by simpa using h8 s hs)⟩
 ·rintro⟨h1,h2,h3,h4,h5,h6,h7,h8⟩
  exact⟨⟨by omega,by omega,h3,h4,h5,h6,by omega⟩,fun s hs=>by simpa using z164.2 (h8 s hs)⟩
theorem z113 {n:Net}:¬ badNet n=true↔n.Good:=by
 have e:¬ badNet n=true↔badNet n=false:=by simp
 rw [e]
 unfold badNet
 simp only [Bool.or_eq_false_iff,Bool.not_eq_false',z20,decide_eq_false_iff_not,List.any_eq_false]
 constructor
 ·rintro⟨h1,h2,h3⟩
  exact⟨h1,by omega,fun x hx=>z579.1 (by simpa using h3 x hx)⟩
 ·rintro⟨h1,h2,h3⟩
  exact⟨h1,by omega,fun x hx=>by simpa using z579.2 (h3 x hx)⟩
theorem Net.Good.ok {n:Net} (h:n.Good):n.Ok :=
 ⟨by have:=h.places;omega,by have:=h.paths;omega,fun x hx=>(h.path x hx).frm,fun x hx=>(h.path x hx).to,fun x hx=>by have:=(h.path x hx).len;omega⟩
theorem Net.Good.hi {n:Net} (h:n.Good):∀ x ∈ n.paths,∀ s ∈ x.opens,s.hi≤2880:=fun x hx s hs=>((h.path x hx).opens s hs).2.2
structure Party.Good (p:Party):Prop where
 grade:1≤p.grade∧p.grade≤6
 pace:50≤p.pace.lo∧p.pace.lo≤p.pace.hi∧p.pace.hi≤300
 load:0≤p.load∧p.load≤40
theorem z191 {p:Party}:¬ badParty p=true↔p.Good:=by
 have e:¬ badParty p=true↔badParty p=false:=by simp
 rw [e]
 unfold badParty
 simp only [Bool.or_eq_false_iff,Bool.not_eq_false',z20,z164]
 exact⟨fun ⟨h1,h2,h3⟩=>⟨h1,h2,h3⟩,fun ⟨h1,h2,h3⟩=>⟨h1,h2,h3⟩⟩
structure Opened (n:Net) (p:Party) (places minutes:List Int):Prop where
 net:n.Good
 party:p.Good
 place:∀ x ∈ places,0≤x∧x<n.places
 minute:∀ x ∈ minutes,0≤x∧x≤2880
theorem z913 {n:Net} {places minutes:List Int}:¬ badAsk n places minutes=true↔(∀ x ∈ places,0≤x∧x<n.places)∧∀ x ∈ minutes,0≤x∧x≤2880:=by
 have e:¬ badAsk n places minutes=true↔badAsk n places minutes=false:=by simp
 rw [e]
 unfold badAsk
 simp only [Bool.or_eq_false_iff,List.any_eq_false]
 constructor
 ·rintro⟨h1,h2⟩
  exact⟨fun x hx=>by have:=z20.1 (by simpa using h1 x hx);omega,fun x hx=>z20.1 (by simpa using h2 x hx)⟩
 ·rintro⟨h1,h2⟩
  exact⟨fun x hx=>by simpa using z20.2 (by have:=h1 x hx;omega),fun x hx=>by simpa using z20.2 (h2 x hx)⟩
theorem z1196 {n:Net} {p:Party} {places minutes:List Int}:openF n p places minutes=0↔Opened n p places minutes:=by
 unfold openF
 constructor
 ·intro h
  split at h
  ·cases h
  ·rename_i h1
   split at h
   ·cases h
   ·rename_i h2
    split at h
    ·cases h
    ·rename_i h3
     exact⟨z113.1 h1,z191.1 h2,(z913.1 h3).1,(z913.1 h3).2⟩
 ·rintro⟨h1,h2,h3,h4⟩
  rw [if_neg (z113.2 h1),if_neg (z191.2 h2),if_neg (z913.2 ⟨h3,h4⟩)]
theorem z939 (n:Net) (p:Party) (q:Span→Int) (but:Int):∀ (k:Nat) (l:List Int),(fixA n p q but k l).length=l.length
 | 0,_=>rfl
 | k + 1,l=>by
  unfold fixA
  split
  ·rw [z939 n p q but k,passA,z194]
  ·rw [passA,z194]
theorem z321 (n:Net) (p:Party) (q:Span→Int) (frm start but:Int):(arrivalsL n p q frm start but).length=n.places.toNat:=by
 rw [arrivalsL,z939];simp [arrivals0]
def spanHi (s:Span):Int:=s.hi
def spanLo (s:Span):Int:=s.lo
def arriveL (n:Net) (p:Party) (frm start:Int):List Int × List Int × Int :=
 if openF n p [frm] [start]=0 then ((arrivalsL n p spanHi frm start (-1)).map told1,(arrivalsL n p spanLo frm start (-1)).map told1,0) else ([],[],openF n p [frm] [start])
theorem z1404 (n:Net) (p:Party) (frm start:Int) (hs:n.Small):Fn Tryz.prog 48 [.agg n.cells,.agg p.cells,.i frm,.i start]
  (.tup [.sl (intRows (arriveL n p frm start).1),.sl (intRows (arriveL n p frm start).2.1),.i (arriveL n p frm start).2.2]):=by
 have h41:=z1391 n p [frm] [start] hs (by simp) (by simp)
 refine z10 36 Tryz.call48 Tryz.func48 rfl (by decide) fun J=>?_
 simp only [go_sem,St.start,Tryz.ntmps48,Tryz.results48,Net.cells,Party.cells]
 repeat (first|refine nx ?_|(refine z3 fun K hK=>?_;simp only [go_sem,walkCells];(repeat (first|(refine⟨_,.lent (hf:=h41) (hd:=rfl) (hr:=rfl),?_⟩;simp only [go_sem,walkCells])|(refine⟨_,.given (hf:=h41) (hd:=rfl) (ha:=rfl),?_⟩;simp only [go_sem,walkCells])));apply hK;clear hK K))
 refine z4 rfl (fun hc=>?_) (fun hc=>?_)
 ·have hc:¬ openF n p [frm] [start]=0:=by simpa using hc
  repeat (first|refine nx ?_|(refine z3 fun K hK=>?_;simp only [go_sem];apply hK;clear hK K))
  simp only [go_sem,arriveL,hc]
  rfl
 ·have hc:openF n p [frm] [start]=0:=by simpa using hc
  have ho:=z1196.1 hc
  have hfr:=ho.place frm (by simp)
  have hpl:=ho.net.places
  have h42:=z1363 n p frm start (-1) 76 spanHi (fun s=>z1390 s) ho.net.ok hfr
  have h42':=z1363 n p frm start (-1) 77 spanLo (fun s=>z1389 s) ho.net.ok hfr
  have h59:=z1364 (arrivalsL n p spanHi frm start (-1)) (by rw [z321];omega)
  have h59':=z1364 (arrivalsL n p spanLo frm start (-1)) (by rw [z321];omega)
  repeat (first|refine nx ?_|(refine z3 fun K hK=>?_;simp only [go_sem];apply hK;clear hK K))
  refine z7 (by kernel_rfl) (by kernel_rfl) fun K hK=>?_
  simp only [go_sem]
  refine⟨_,.fnS (hdst:=rfl) (hf:=h42) (hd:=rfl) (hr:=.inr rfl) (hfr:=rfl),?_⟩
  simp only [go_sem]
  refine⟨_,.inPlace (n:=29) (hf:=h59) (hn:=rfl) (hb:=rfl) (hla:=rfl) (ha:=z88 (by repeat (first|exact trivial|refine And.intro ?_ ?_|exact z104 rfl|exact z74 rfl rfl))) (hx:=by first|decide|simp [AV.refsAll,AV.refs,AV.refs.AV.refss]),?_⟩
  simp only [go_sem]
  refine⟨_,.fnS (hdst:=rfl) (hf:=h42') (hd:=rfl) (hr:=.inr rfl) (hfr:=rfl),?_⟩
  simp only [go_sem]
  refine⟨_,.inPlace (n:=34) (hf:=h59') (hn:=rfl) (hb:=rfl) (hla:=rfl) (ha:=z88 (by repeat (first|exact trivial|refine And.intro ?_ ?_|exact z104 rfl|exact z74 rfl rfl))) (hx:=by first|decide|simp [AV.refsAll,AV.refs,AV.refs.AV.refss]),?_⟩
  simp only [go_sem]
  refine⟨by kernel_rfl,hK _ ?_⟩
  clear hK K
  repeat (first|refine nx ?_|(refine z3 fun K hK=>?_;simp only [go_sem];apply hK;clear hK K))
  simp only [go_sem,arriveL,hc]
end Go.Ab
namespace Go.Ab
open Go.RowKit Go.Proofs
set_option maxHeartbeats 4000000
set_option maxRecDepth 20000
attribute [local irreducible] WalkL Walk
def refArriveL (n:Net) (p:Party) (frm start:Int):List Int × List Int × Int :=
 if openF n p [frm] [start]=0 then ((tableL n p frm start true (-1)).map shown1,(tableL n p frm start false (-1)).map shown1,0) else ([],[],openF n p [frm] [start])
def latestL (n:Net) (p:Party) (frm to deadline:Int):Int × Int :=
 if openF n p [frm,to] [deadline]=0 then (if getI (deadlinesL n p to deadline) frm=-1 then (0,3) else (getI (deadlinesL n p to deadline) frm,0)) else (0,openF n p [frm,to] [deadline])
def findDown (q:Int→Bool):Nat→Option Nat
 | 0=>none
 | k + 1=>if q k then some k else findDown q k
def refLatestL (n:Net) (p:Party) (frm to deadline:Int):Int × Int :=
 if openF n p [frm,to] [deadline]=0 then (match findDown (fun t=>decide (sureF n p frm t to (-1)≤deadline)) (deadline + 1).toNat with
  | some t=>((t:Int),0)
  | none=>(0,3)) else (0,openF n p [frm,to] [deadline])
end Go.Ab
namespace Go.Ab
open Go.RowKit Go.Proofs
set_option maxHeartbeats 4000000
set_option maxRecDepth 20000
attribute [local irreducible] WalkL Walk
def walkF (n:Net) (p:Party) (i:Int):Span × Int :=
 if checkPartyF n p=0 then (if withinB i 0 (n.paths.length - 1) then (match n.paths[i.toNat]? with
  | some x=>if x.grade≤p.grade then (spanW x p,0) else (⟨0,0⟩,3)
  | none=>(⟨0,0⟩,1)) else (⟨0,0⟩,1)) else (⟨0,0⟩,checkPartyF n p)
theorem z1403 (n:Net) (p:Party) (i:Int) (hs:n.Small):Fn Tryz.prog 49 [.agg n.cells,.agg p.cells,.i i] (.tup [.agg (walkF n p i).1.row,.i (walkF n p i).2]):=by
 have h73:=z1362 n p hs
 refine z10 39 Tryz.call49 Tryz.func49 rfl (by decide) fun J=>?_
 simp only [go_sem,St.start,Tryz.ntmps49,Tryz.results49,Net.cells,Party.cells]
 repeat (first|refine nx ?_|(refine z3 fun K hK=>?_;simp only [go_sem,walkCells];(repeat (first|(refine⟨_,.lent (hf:=h73) (hd:=rfl) (hr:=rfl),?_⟩;simp only [go_sem,walkCells])|(refine⟨_,.given (hf:=h73) (hd:=rfl) (ha:=rfl),?_⟩;simp only [go_sem,walkCells])));apply hK;clear hK K))
 refine z4 rfl (fun hc=>?_) (fun hc=>?_)
 ·have hc:¬ checkPartyF n p=0:=by simpa using hc
  repeat (first|refine nx ?_|(refine z3 fun K hK=>?_;simp only [go_sem];apply hK;clear hK K))
  simp only [go_sem,walkF,hc]
  rfl
 ·have hop:checkPartyF n p=0:=by simpa using hc
  have hb:=hs.paths
  have hw:IntKind.i64.wrap ((n.paths.length:Int) - 1)=n.paths.length - 1:=z9 (by omega)
  repeat (first|refine nx ?_|(refine z3 fun K hK=>?_;simp only [go_sem,hw];(repeat (first|(refine⟨_,.lent (hf:=z1059 i 0 (n.paths.length - 1)) (hd:=rfl) (hr:=rfl),?_⟩;simp only [go_sem,hw])|(refine⟨_,.given (hf:=z1059 i 0 (n.paths.length - 1)) (hd:=rfl) (ha:=rfl),?_⟩;simp only [go_sem,hw])));apply hK;clear hK K))
  refine z4 rfl (fun hc=>?_) (fun hc=>?_)
  ·have hc:withinB i 0 (n.paths.length - 1)=false:=by simpa using hc
   repeat (first|refine nx ?_|(refine z3 fun K hK=>?_;simp only [go_sem];apply hK;clear hK K))
   simp only [go_sem,walkF,hop,hc]
   rfl
  ·have hwi:withinB i 0 (n.paths.length - 1)=true:=by simpa using hc
   have hii:=z20.1 hwi
   obtain⟨j,rfl⟩:∃ j:Nat,i=j:=⟨i.toNat,by omega⟩
   obtain⟨x,hx⟩:∃ x,n.paths[j]?=some x:=⟨_,List.getElem?_eq_getElem (show j<n.paths.length by omega)⟩
   have h74:=z1361 n p j x hx
   have h51:=z1360 n p j x hx
   repeat (first|refine nx ?_|(refine z3 fun K hK=>?_;simp only [go_sem];(repeat (first|(refine⟨_,.lent (hf:=h74) (hd:=rfl) (hr:=rfl),?_⟩;simp only [go_sem])|(refine⟨_,.given (hf:=h74) (hd:=rfl) (ha:=rfl),?_⟩;simp only [go_sem])));apply hK;clear hK K))
   refine z4 rfl (fun hc=>?_) (fun hc=>?_)
   ·have hg:¬ x.grade≤p.grade:=by simpa using hc
    repeat (first|refine nx ?_|(refine z3 fun K hK=>?_;simp only [go_sem];apply hK;clear hK K))
    simp only [go_sem,walkF,hop,hwi,Int.toNat_natCast,hx,hg]
    rfl
   ·have hg:x.grade≤p.grade:=by simpa using hc
    repeat (first|refine nx ?_|(refine z3 fun K hK=>?_;simp only [go_sem,Span.row];(repeat (first|(refine⟨_,.lent (hf:=h51) (hd:=rfl) (hr:=rfl),?_⟩;simp only [go_sem,Span.row])|(refine⟨_,.given (hf:=h51) (hd:=rfl) (ha:=rfl),?_⟩;simp only [go_sem,Span.row])));apply hK;clear hK K))
    simp only [go_sem,walkF,hop,hwi,Int.toNat_natCast,hx,hg,Span.row]
def selL (q:Nat→Bool) (k:Nat):List Int:=((List.range k).filter q).map fun (i:Nat)=>(i:Int)
theorem z1088 (q:Nat→Bool) (k:Nat):selL q (k + 1)=selL q k++if q k then [(k:Int)] else []:=by
 simp only [selL,List.range_succ,List.filter_append,List.map_append]
 congr 1
 by_cases h:q k <;> simp [h]
theorem z1177 (q:Nat→Bool) (k:Nat):(selL q k).length≤k:=by
 unfold selL
 rw [List.length_map]
 exact Nat.le_trans (List.length_filter_le _ _) (by simp)
def vitalL (n:Net) (p:Party) (frm start to deadline:Int):List Int × Int :=
 if openF n p [frm,to] [start,deadline]=0 then (if getI (arrivalsL n p spanHi frm start (-1)) to > deadline then ([],3) else (selL (fun (i:Nat)=>decide (getI (arrivalsL n p spanHi frm start (i:Int)) to > deadline)) n.paths.length,0))
 else ([],openF n p [frm,to] [start,deadline])
def refVitalL (n:Net) (p:Party) (frm start to deadline:Int):List Int × Int :=
 if openF n p [frm,to] [start,deadline]=0 then (if sureF n p frm start to (-1) > deadline then ([],3) else (selL (fun (i:Nat)=>decide (sureF n p frm start to (i:Int) > deadline)) n.paths.length,0))
 else ([],openF n p [frm,to] [start,deadline])
def withinL (n:Net) (p:Party) (frm start deadline:Int):List Int × List Int × Int :=
 if openF n p [frm] [start,deadline]=0 then (untilL deadline (arrivalsL n p spanHi frm start (-1)),untilL deadline (arrivalsL n p spanLo frm start (-1)),0) else ([],[],openF n p [frm] [start,deadline])
def refWithinL (n:Net) (p:Party) (frm start deadline:Int):List Int × List Int × Int :=
 if openF n p [frm] [start,deadline]=0 then (untilL deadline (tableL n p frm start true (-1)),untilL deadline (tableL n p frm start false (-1)),0) else ([],[],openF n p [frm] [start,deadline])
end Go.Ab
namespace Go.Ab
open Go.RowKit Go.Proofs
set_option maxHeartbeats 4000000
set_option maxRecDepth 20000
attribute [local irreducible] WalkL Walk
theorem z1326 (c:Int) (m:Nat) (h:m<2 ^ 30):FnS Tryz.prog 50 [.sl [[.i c]],.i m] 3 1 (intRows (List.replicate m c)):=by
 rw [← z152];exact z1369 c m h
def relaxS (p:Party) (now next:List Int) (w:Nat × Path):List Int :=
 if getI now w.2.frm=never then next else next.set w.2.to.toNat (min (getI next w.2.to) (arriveF w.2.opens (getI now w.2.frm) (spanW w.2 p).hi))
def nextS (n:Net) (p:Party) (now:List Int):List Int:=(waysL n p (-1)).foldl (relaxS p now) (List.replicate n.places.toNat never)
def nowS (n:Net) (p:Party) (frm start:Int) (k:Nat):List Int:=iterL (nextS n p) k (arrivals0 n frm start)
def stepsL (n:Net) (p:Party) (frm start:Int) (k:Nat):List (List Int):=(List.range (k + 1)).map (nowS n p frm start)
def slRows (ls:List (List Int)):List (List DV):=ls.map fun l=>[.sl (intRows l)]
end Go.Ab
namespace Go.Ab
open Go.RowKit Go.Proofs
set_option maxHeartbeats 8000000
set_option maxRecDepth 40000
attribute [local irreducible] WalkL Walk
def relaxBy (p:Party) (cur next:List Int) (w:Nat × Path):List Int :=
 next.set w.2.frm.toNat (max (getI next w.2.frm) (latestF w.2.opens (wr (getI cur w.2.to - (spanW w.2 p).hi))))
def byNext (n:Net) (p:Party) (cur:List Int):List Int:=(waysL n p (-1)).foldl (relaxBy p cur) (List.replicate n.places.toNat (-1))
def byL (n:Net) (p:Party) (to arr:Int) (k:Nat):List Int:=iterL (byNext n p) k (deadlines0 n to arr)
theorem z877 (p:Party) (cur next:List Int) (w:Nat × Path):(relaxBy p cur next w).length=next.length:=by unfold relaxBy;simp
abbrev RSt:=List Int × Int × Int
def fitsR (p:Party) (cur:List Int) (s:RSt) (w:Nat × Path):Bool:=(w.2.frm == s.2.1) && decide (arriveF w.2.opens s.2.2 (spanW w.2 p).hi≤getI cur w.2.to)
def stepR (n:Net) (p:Party) (cur:List Int) (s:RSt):RSt:=match (waysL n p (-1)).find? (fitsR p cur s) with
 | some w=>(s.1++[(w.1:Int)],w.2.to,arriveF w.2.opens s.2.2 (spanW w.2 p).hi)
 | none=>s
def routeD (n:Net) (p:Party) (to arr:Int):Nat→RSt→RSt
 | 0,s=>s
 | k + 1,s=>routeD n p to arr k (stepR n p (byL n p to arr k) s)
def fewest (n:Net) (p:Party) (frm start to arr:Int):Int:=idxFrom (fun l=>getI l to == arr) (stepsL n p frm start (n.places.toNat - 1)) 0
def routeL (n:Net) (p:Party) (frm start to:Int):List Int × Int × Int :=
 if openF n p [frm,to] [start]=0 then
  (let arr:=getI (arrivalsL n p spanHi frm start (-1)) to
   if arr=never then ([],0,3) else ((routeD n p to arr (fewest n p frm start to arr).toNat ([],frm,start)).1,arr,0))
 else ([],0,openF n p [frm,to] [start])
def bySt (n:Net) (p:Party) (to arr:Int) (k:Nat):List (Option Blk):=(List.range (k + 1)).map fun i=>some (.arr 3 1 (intRows (byL n p to arr i)))
def byRow (K k:Nat):List AV:=(List.range (k + 1)).map (fun i=>AV.own (i + 162))++List.replicate (K - k) (.d (.sl []))
end Go.Ab
namespace Go.Ab
open Go.RowKit Go.Proofs
set_option maxHeartbeats 4000000
set_option maxRecDepth 20000
attribute [local irreducible] WalkL Walk
theorem z364 {a b:List Int} (hl:a.length=b.length) (h:a.take a.length=b.take a.length):a=b:=by
 rw [List.take_length] at h
 rw [h,hl,List.take_length]
def exN:Net:=⟨4,[⟨0,1,2,⟨100,120⟩,⟨0,0⟩,[⟨0,2880⟩]⟩,⟨1,2,3,⟨60,90⟩,⟨4,10⟩,[⟨0,2880⟩]⟩,⟨2,3,2,⟨60,60⟩,⟨0,0⟩,[⟨400,700⟩]⟩,⟨0,3,2,⟨300,400⟩,⟨0,0⟩,[⟨0,2880⟩]⟩,⟨3,0,2,⟨200,240⟩,⟨0,0⟩,[⟨0,2880⟩]⟩]⟩
def exP:Party:=⟨3,0,⟨100,100⟩⟩
theorem z1407:Fn Tryz.prog 42 [] (.tup [.agg exN.cells,.agg exP.cells]):=by
 refine z10 26 Tryz.call42 Tryz.func42 rfl (by decide) fun J=>?_
 simp only [go_sem,St.start,Tryz.ntmps42,Tryz.results42]
 repeat (first|refine nx ?_|(refine z3 fun K hK=>?_;simp only [go_sem];(repeat (first|(refine⟨_,.lent (hf:=z1368 _ _) (hd:=rfl) (hr:=rfl),?_⟩;simp only [go_sem])|(refine⟨_,.given (hf:=z1368 _ _) (hd:=rfl) (ha:=rfl),?_⟩;simp only [go_sem])));apply hK;clear hK K))
 simp only [go_sem,exN,exP,Net.cells,Party.cells,Path.row,Span.row]
theorem z940:exN.Small:=⟨by decide,by intro x hx;revert hx x;decide⟩
end Go.Ab
namespace Go.Ab
open Go.RowKit Go.Proofs
set_option maxHeartbeats 4000000
set_option maxRecDepth 20000
attribute [local irreducible] WalkL Walk
def farB (n:Net):Bool:=decide ((n.paths.length:Int) > 26) || (n.paths.any (fun x=>decide ((x.opens.length:Int) > 8)) || (!badNet n && (decide (n.places > 6) || decide ((n.paths.length:Int) > 10))))
structure Trip where
 frm:Int
 to:Int
 start:Int
 deadline:Int
 route:List Int
 path:Int
def Trip.row (x:Trip):List DV:=[.i x.frm,.i x.to,.i x.start,.i x.deadline,.sl (intRows x.route),.i x.path]
def fitsB (n:Net) (p:Party) (x:Trip):Bool :=
 !farB n && (checkPartyF n p == 0 && (withinB x.frm 0 (n.places - 1) && (withinB x.to 0 (n.places - 1) && (withinB x.start 0 2880 && withinB x.deadline 0 2880))))
theorem z141 {n:Net} {p:Party}:checkPartyF n p=0↔n.Good∧p.Good:=by
 unfold checkPartyF
 constructor
 ·intro h
  split at h
  ·cases h
  ·rename_i h1
   split at h
   ·cases h
   ·rename_i h2;exact⟨z113.1 h1,z191.1 h2⟩
 ·rintro⟨h1,h2⟩
  rw [if_neg (z113.2 h1),if_neg (z191.2 h2)]
end Go.Ab
/- Plain laws of layer 1: paths,arrivals,deadlines. -/
namespace Go.Ab
open Go.RowKit Go.Proofs
set_option maxHeartbeats 1000000
theorem z138 (t b:Int):∀ (l:List Span) (f:Int),l.foldl (fun f s=>if t≤s.hi then min f (max t s.lo) else f) f≤b↔f≤b∨∃ s ∈ l,t≤s.hi∧max t s.lo≤b
 | [],f=>by simp
 | s::l,f=>by
  rw [List.foldl_cons,z138 t b l]
  simp only [List.mem_cons,exists_eq_or_imp]
  split
  ·rename_i h
   constructor
   ·rintro (h1 | h1)
    ·by_cases h2:f≤b
     ·exact .inl h2
     ·exact .inr (.inl ⟨h,by omega⟩)
    ·exact .inr (.inr h1)
   ·rintro (h1 | h1 | h1)
    ·exact .inl (by omega)
    ·exact .inl (by omega)
    ·exact .inr h1
  ·rename_i h
   constructor
   ·rintro (h1 | h1)
    ·exact .inl h1
    ·exact .inr (.inr h1)
   ·rintro (h1 | h1 | h1)
    ·exact .inl h1
    ·omega
    ·exact .inr h1
theorem z243 (c b:Int):∀ (l:List Span) (f:Int),c≤l.foldl (fun last s=>if s.lo≤b then max last (min s.hi b) else last) f↔c≤f∨∃ s ∈ l,s.lo≤b∧c≤min s.hi b
 | [],f=>by simp
 | s::l,f=>by
  rw [List.foldl_cons,z243 c b l]
  simp only [List.mem_cons,exists_eq_or_imp]
  split
  ·rename_i h
   constructor
   ·rintro (h1 | h1)
    ·by_cases h2:c≤f
     ·exact .inl h2
     ·exact .inr (.inl ⟨h,by omega⟩)
    ·exact .inr (.inr h1)
   ·rintro (h1 | h1 | h1)
    ·exact .inl (by omega)
    ·exact .inl (by omega)
    ·exact .inr h1
  ·rename_i h
   constructor
   ·rintro (h1 | h1)
    ·exact .inl h1
    ·exact .inr (.inr h1)
   ·rintro (h1 | h1 | h1)
    ·exact .inl h1
    ·omega
    ·exact .inr h1
theorem z905 (opens:List Span) (t:Int):enterF opens t≤never:=(z138 t never opens _).2 (.inl (by decide))
theorem z941 {opens:List Span} {t:Int} (h:enterF opens t<never):t≤enterF opens t:=by
 have h1:=(z138 t (enterF opens t) opens 1073741824).1 (Int.le_refl _)
 rcases h1 with h1 | ⟨s,_,_,h1⟩
 ·have:(1073741824:Int)=never:=rfl
  omega
 ·omega
theorem z739 {opens:List Span} {t:Int} (h:0≤t):0≤enterF opens t:=by
 by_cases h1:enterF opens t<never
 ·have:=z941 h1;omega
 ·have:(1073741824:Int)=never:=rfl
  omega
def okTime (d:Int):Prop:=1≤d∧d≤6000
theorem z757 {opens:List Span} {t d:Int} (ht:0≤t) (hd:okTime d):arriveF opens t d=if enterF opens t + d > 2880 then never else enterF opens t + d:=by
 have h1:=z739 (opens:=opens) ht
 have h2:=z905 opens t
 have hv:never=1073741824:=rfl
 have hw:wr (enterF opens t + d)=enterF opens t + d:=z9 (by unfold okTime at hd;omega)
 unfold arriveF
 rw [hw]
 rfl
theorem z175 {opens:List Span} {t d b:Int} (ht:0≤t) (hd:okTime d) (hb:b≤2880):arriveF opens t d≤b↔∃ s ∈ opens,t≤s.hi∧max t s.lo≤b - d:=by
 have hv:never=1073741824:=rfl
 unfold okTime at hd
 rw [z757 ht hd]
 have h:=z138 t (b - d) opens 1073741824
 change enterF opens t≤b - d↔_ at h
 constructor
 ·intro h1
  split at h1
  ·omega
  ·rcases h.1 (by omega) with h2 | h2
   ·omega
   ·exact h2
 ·intro h1
  have:=h.2 (.inr h1)
  rw [if_neg (by omega)]
  omega
theorem z477 {opens:List Span} {t d b:Int} (ht:0≤t) (hd:okTime d) (hb:b≤2880) (hb0:-1≤b):t≤latestF opens (wr (b - d))↔arriveF opens t d≤b:=by
 have hw:wr (b - d)=b - d:=z9 (by unfold okTime at hd;omega)
 rw [hw,z175 ht hd hb]
 have h:=z243 t (b - d) opens (-1)
 change t≤latestF opens (b - d)↔_ at h
 rw [h]
 constructor
 ·rintro (h1 | ⟨s,h1,h2,h3⟩)
  ·omega
  ·exact⟨s,h1,by omega,by omega⟩
 ·rintro⟨s,h1,h2,h3⟩
  exact .inr ⟨s,h1,by omega,by omega⟩
theorem z140 {opens:List Span} {t d:Int} (ht:0≤t) (hd:okTime d):arriveF opens t d=never∨(t + d≤arriveF opens t d∧arriveF opens t d≤2880):=by
 have hv:never=1073741824:=rfl
 unfold okTime at hd
 rw [z757 ht hd]
 split
 ·exact .inl rfl
 ·have:=z941 (opens:=opens) (t:=t) (by omega)
  exact .inr (by omega)
theorem z914 {opens:List Span} {t t' d:Int} (ht:0≤t) (hle:t≤t') (hd:okTime d):arriveF opens t d≤arriveF opens t' d:=by
 have hv:never=1073741824:=rfl
 rcases z140 (opens:=opens) (t:=t') (by omega) hd with h | ⟨h1,h2⟩
 ·rw [h]
  rcases z140 (opens:=opens) ht hd with h' | h'
  ·omega
  ·omega
 ·obtain⟨s,q1,q2,q3⟩:=(z175 (b:=arriveF opens t' d) (by omega) hd h2).1 (Int.le_refl _)
  exact (z175 ht hd h2).2 ⟨s,q1,by omega,by omega⟩
theorem z1075 {t pace snow load:Int} (ht:1≤t∧t≤600) (hp:50≤pace∧pace≤300) (hs:0≤snow∧snow≤30) (hl:0≤load∧load≤40) :
  timeW t pace snow load=(t * pace * (100 + 5 * snow + load) + 9999) / 10000∧okTime (timeW t pace snow load):=by
 have h1:50≤t * pace:=by have:=Int.mul_le_mul ht.1 hp.1 (by omega) (by omega);omega
 have h2:t * pace≤180000:=by have:=Int.mul_le_mul ht.2 hp.2 (by omega) (by omega);omega
 have h3:100≤100 + 5 * snow + load:=by omega
 have h4:100 + 5 * snow + load≤290:=by omega
 have h5:5000≤t * pace * (100 + 5 * snow + load):=by have:=Int.mul_le_mul h1 h3 (by omega) (by omega);omega
 have h6:t * pace * (100 + 5 * snow + load)≤52200000:=by have:=Int.mul_le_mul h2 h4 (by omega) (by omega);omega
 have e1:wr (t * pace)=t * pace:=z9 (by omega)
 have e2:wr (5 * snow)=5 * snow:=z9 (by omega)
 have e3:wr (100 + 5 * snow)=100 + 5 * snow:=z9 (by omega)
 have e4:wr (100 + 5 * snow + load)=100 + 5 * snow + load:=z9 (by omega)
 have e5:wr (t * pace * (100 + 5 * snow + load))=t * pace * (100 + 5 * snow + load):=z9 (by omega)
 have e6:wr (t * pace * (100 + 5 * snow + load) + 9999)=t * pace * (100 + 5 * snow + load) + 9999:=z9 (by omega)
 have e7:(t * pace * (100 + 5 * snow + load) + 9999).tdiv 10000=(t * pace * (100 + 5 * snow + load) + 9999) / 10000:=Int.tdiv_eq_ediv_of_nonneg (by omega)
 have h:timeW t pace snow load=(t * pace * (100 + 5 * snow + load) + 9999) / 10000:=by
  unfold timeW
  rw [e1,e2,e3,e4,e5,e6,e7]
  exact z9 (by omega)
 refine⟨h,?_⟩
 rw [h]
 unfold okTime
 omega
theorem z551 {n:Net} {p:Party} {x:Path} (hx:x.Good n) (hp:p.Good):okTime (spanW x p).hi∧okTime (spanW x p).lo∧(spanW x p).lo≤(spanW x p).hi:=by
 obtain⟨t1,t2,t3⟩:=hx.time
 obtain⟨s1,s2,s3⟩:=hx.snow
 obtain⟨p1,p2,p3⟩:=hp.pace
 obtain⟨a1,a2⟩:=z1075 (t:=x.time.hi) (pace:=p.pace.hi) (snow:=x.snow.hi) (load:=p.load) (by omega) (by omega) (by omega) hp.load
 obtain⟨b1,b2⟩:=z1075 (t:=x.time.lo) (pace:=p.pace.lo) (snow:=x.snow.lo) (load:=p.load) (by omega) (by omega) (by omega) hp.load
 have hl:=hp.load
 refine⟨a2,b2,?_⟩
 show timeW _ _ _ _≤timeW _ _ _ _
 rw [a1,b1]
 have h1:x.time.lo * p.pace.lo≤x.time.hi * p.pace.hi:=Int.mul_le_mul t2 p2 (by omega) (by omega)
 have h2:x.time.lo * p.pace.lo * (100 + 5 * x.snow.lo + p.load)≤x.time.hi * p.pace.hi * (100 + 5 * x.snow.hi + p.load):=by
  refine Int.mul_le_mul h1 (by omega) (by omega) ?_
  exact Int.mul_nonneg (by omega) (by omega)
 omega
theorem z571 (l:List Int) (k y v:Int) (hk:0≤k) (hkl:k.toNat<l.length) (hy:0≤y):getI (l.set k.toNat v) y=if y=k then v else getI l y:=by
 unfold getI
 rw [List.getD_eq_getElem?_getD,List.getD_eq_getElem?_getD,List.getElem?_set]
 by_cases h:y=k
 ·subst h;simp [hkl]
 ·rw [if_neg (by omega),if_neg h]
inductive Reach (ws:List (Nat × Path)) (dur:Path→Int) (x s:Int):Int→Int→Prop where
 | refl:Reach ws dur x s x s
 | step {y t:Int} (w:Nat × Path):Reach ws dur x s y t→w ∈ ws→w.2.frm=y→arriveF w.2.opens t (dur w.2)≤2880→Reach ws dur x s w.2.to (arriveF w.2.opens t (dur w.2))
def OkWs (n:Net) (dur:Path→Int) (ws:List (Nat × Path)):Prop:=∀ w ∈ ws,(0≤w.2.frm∧w.2.frm<n.places)∧(0≤w.2.to∧w.2.to<n.places)∧okTime (dur w.2)
theorem z503 {n:Net} {p:Party} (hn:n.Good) (hp:p.Good) (but:Int):OkWs n (fun x=>(spanW x p).hi) (waysL n p but)∧OkWs n (fun x=>(spanW x p).lo) (waysL n p but):=by
 constructor <;>
 ·intro w hw
  have hg:=hn.path w.2 (List.mem_of_getElem? (z179 hw))
  have:=z551 hg hp
  exact⟨hg.frm,hg.to,by first | exact this.1 | exact this.2.1⟩
theorem Reach.range {n:Net} {ws:List (Nat × Path)} {dur:Path→Int} (hw:OkWs n dur ws) {x s y t:Int} (hs:0≤s∧s≤2880) (hx:0≤x∧x<n.places) (h:Reach ws dur x s y t) :
  s≤t∧t≤2880∧0≤y∧y<n.places:=by
 induction h with
 | refl=>omega
 | @step y t w _ hm hf hle ih =>
  obtain⟨h1,h2,h3⟩:=hw w hm
  have hv:never=1073741824:=rfl
  rcases z140 (opens:=w.2.opens) (t:=t) (d:=dur w.2) (by omega) h3 with h | h
  ·omega
  ·unfold okTime at h3;omega
theorem Reach.mono {n:Net} {ws:List (Nat × Path)} {dur:Path→Int} (hw:OkWs n dur ws) {x s s' y t:Int} (hs:0≤s'∧s'≤s) (h2:s≤2880) (hx:0≤x∧x<n.places) (h:Reach ws dur x s y t):∃ t',t'≤t∧Reach ws dur x s' y t':=by
 induction h with
 | refl=>exact⟨s',hs.2,.refl⟩
 | @step y t w hr hm hf hle ih =>
  obtain⟨t',ht',hr'⟩:=ih
  have hrg:=hr'.range hw (by omega) hx
  have:=z914 (opens:=w.2.opens) (t:=t') (t':=t) (d:=dur w.2) (by omega) ht' (hw w hm).2.2
  exact⟨_,this,.step w hr' hm hf (by omega)⟩
end Go.Ab
/- Plain laws of layer 1: what the passes come to. -/
namespace Go.Ab
open Go.RowKit Go.Proofs
set_option maxHeartbeats 1000000
theorem Reach.trans {ws:List (Nat × Path)} {dur:Path→Int} {x s y t z u:Int} (h:Reach ws dur x s y t) (h':Reach ws dur y t z u):Reach ws dur x s z u:=by
 induction h' with
 | refl=>exact h
 | step w _ hm hf hle ih=>exact .step w ih hm hf hle
theorem Reach.one {ws:List (Nat × Path)} {dur:Path→Int} {t:Int} {w:Nat × Path} (hm:w ∈ ws) (hle:arriveF w.2.opens t (dur w.2)≤2880):Reach ws dur w.2.frm t w.2.to (arriveF w.2.opens t (dur w.2)) :=
 .step w .refl hm rfl hle
section
variable {n:Net} {p:Party} {q:Span→Int} {but frm start:Int}
def ArrInv (n:Net) (ws:List (Nat × Path)) (dur:Path→Int) (frm start:Int) (l:List Int):Prop :=
 l.length=n.places.toNat∧getI l frm≤start∧∀ y,0≤y→y<n.places→getI l y=never∨(0≤getI l y∧getI l y≤2880∧Reach ws dur frm start y (getI l y))
end
section
variable {n:Net} {p:Party} {to b:Int}
abbrev durHi (p:Party):Path→Int:=fun x=>(spanW x p).hi
abbrev durLo (p:Party):Path→Int:=fun x=>(spanW x p).lo
def DeadInv (n:Net) (p:Party) (to b:Int) (l:List Int):Prop :=
 l.length=n.places.toNat∧b≤getI l to∧∀ x,0≤x→x<n.places→-1≤getI l x∧getI l x≤2880∧(0≤getI l x→∃ t,t≤b∧Reach (waysL n p (-1)) (durHi p) x (getI l x) to t)
end
end Go.Ab
namespace Go.Ab
open Go.RowKit Go.Proofs
set_option maxHeartbeats 4000000
set_option maxRecDepth 20000
attribute [local irreducible] WalkL Walk
structure Fits (n:Net) (p:Party) (x:Trip):Prop where
 net:n.Good
 party:p.Good
 few:n.places≤6∧n.paths.length≤10
 frm:0≤x.frm∧x.frm<n.places
 to:0≤x.to∧x.to<n.places
 start:0≤x.start∧x.start≤2880
 deadline:0≤x.deadline∧x.deadline≤2880
end Go.Ab
namespace Go.Ab
open Go.RowKit Go.Proofs
set_option maxHeartbeats 4000000
set_option maxRecDepth 20000
attribute [local irreducible] WalkL Walk
end Go.Ab
namespace Go.Ab
open Go.RowKit Go.Proofs
set_option maxHeartbeats 4000000
set_option maxRecDepth 20000
attribute [local irreducible] WalkL Walk
def onB (n:Net) (p:Party) (f i:Int):Option Int :=
 if withinB i 0 (n.paths.length - 1) then match n.paths[i.toNat]? with
  | some x=>if x.grade≤p.grade∧x.frm=f then some x.to else none
  | none=>none
 else none
def walkR (n:Net) (p:Party) (f:Int) (l:List Int):Option Int:=l.foldl (fun s i=>s.bind fun g=>onB n p g i) (some f)
def isRouteB (n:Net) (p:Party) (f:Int) (l:List Int):Bool:=(walkR n p f l).isSome && decide ((l.length:Int)≤30)
end Go.Ab
namespace Go.Ab
open Go.RowKit Go.Proofs
set_option maxHeartbeats 4000000
set_option maxRecDepth 20000
attribute [local irreducible] WalkL Walk
def noPath:Path:=⟨0,0,0,⟨0,0⟩,⟨0,0⟩,[]⟩
def pathAt (n:Net) (v:Int):Path:=n.paths.getD v.toNat noPath
def roundW (n:Net) (p:Party) (waits times:List Int) (i:Nat) (v at0:Int):Option Int :=
 let e:=enterF (pathAt n v).opens (if i<waits.length then wr (at0 + getI waits i) else at0)
 if e ≥ 1073741824 then none else some (wr (e + if i<times.length then getI times i else (spanW (pathAt n v) p).hi))
def walkedAt (n:Net) (p:Party) (route waits times:List Int) (start:Int):Nat→Option Int
 | 0=>some start
 | i + 1=>(walkedAt n p route waits times start i).bind (roundW n p waits times i (getI route i))
def walkedF (n:Net) (p:Party) (route:List Int) (start:Int) (waits times:List Int):Int:=(walkedAt n p route waits times start route.length).getD 1073741824
def onNet (n:Net) (v:Int):Prop:=0≤v∧v<n.paths.length
end Go.Ab
namespace Go.Ab
open Go.RowKit Go.Proofs
set_option maxHeartbeats 4000000
set_option maxRecDepth 20000
attribute [local irreducible] WalkL Walk
end Go.Ab
namespace Go.Ab
open Go.RowKit Go.Proofs
set_option maxHeartbeats 4000000
set_option maxRecDepth 20000
attribute [local irreducible] WalkL Walk
def turnF (n:Net) (p:Party) (by1:List Int):List Int→Int→Nat→Int
 | [],_,k=>k
 | v::r,t,k=>if arriveF (pathAt n v).opens t (spanW (pathAt n v) p).hi > getI by1 (pathAt n v).to then k else turnF n p by1 r (arriveF (pathAt n v).opens t (spanW (pathAt n v) p).hi) (k + 1)
def turnL (n:Net) (p:Party) (route:List Int) (frm start home deadline:Int):Int × Int :=
 if openF n p [frm,home] [start,deadline]=0 then
  if isRouteB n p frm route then
   if start > getI (deadlinesL n p home deadline) frm then (-1,0) else (turnF n p (deadlinesL n p home deadline) route start 0,0)
  else (0,12)
 else (0,openF n p [frm,home] [start,deadline])
end Go.Ab
namespace Go.Ab
open Go.RowKit Go.Proofs
def goOn (n:Net) (p:Party) (s:Int × Int) (v:Int):Int × Int:=((pathAt n v).to,arriveF (pathAt n v).opens s.2 (spanW (pathAt n v) p).hi)
def posR (n:Net) (p:Party) (s:Int × Int) (l:List Int) (i:Nat):Int × Int:=(l.take i).foldl (goOn n p) s
end Go.Ab
namespace Go.Ab
open Go.RowKit Go.Proofs
set_option maxHeartbeats 4000000
set_option maxRecDepth 20000
attribute [local irreducible] WalkL Walk
end Go.Ab
namespace Go.Ab
open Go.RowKit Go.Proofs
set_option maxHeartbeats 4000000
set_option maxRecDepth 20000
attribute [local irreducible] WalkL Walk
end Go.Ab
/- Plain law of layer 1: the document's table is the program's arrivals. -/
namespace Go.Ab
open Go.RowKit Go.Proofs
set_option maxHeartbeats 1000000
theorem z336 (p:Party) (but:Int):∀ (l:List Path) (i j:Nat) (x:Path),l[j]?=some x→((i + j:Nat):Int)≠but→x.grade≤p.grade→(i + j,x) ∈ waysFrom p but l i
 | [],i,j,x,h,_,_=>by simp at h
 | y::l,i,0,x,h,h1,h2=>by
  simp at h;subst h
  unfold waysFrom
  rw [if_pos ⟨by simpa using h1,h2⟩]
  simp
 | y::l,i,j + 1,x,h,h1,h2=>by
  have:=z336 p but l (i + 1) j x (by simpa using h) (by rw [show i + 1 + j=i + (j + 1) by omega];exact h1) h2
  rw [show i + 1 + j=i + (j + 1) by omega] at this
  unfold waysFrom
  split
  ·exact List.mem_cons_of_mem _ this
  ·exact this
theorem z1066 {n:Net} {p:Party} {but:Int} {w:Nat × Path}:w ∈ waysL n p but↔n.paths[w.1]?=some w.2∧w.2.grade≤p.grade∧(w.1:Int)≠but:=by
 constructor
 ·intro h
  obtain⟨_,h2,h3,h4⟩:=z134 p but n.paths 0 w h
  exact⟨by simpa using h2,h3,h4⟩
 ·rintro⟨h1,h2,h3⟩
  have:=z336 p but n.paths 0 w.1 w.2 h1 (by simpa using h3) h2
  simpa [waysL] using this
def endOf (high:Bool) (s:Span):Int:=if high then s.hi else s.lo
section
variable {n:Net} {p:Party} {high:Bool} {but frm start:Int}
def TabInv (n:Net) (p:Party) (high:Bool) (but frm start:Int) (l:List Int):Prop :=
 l.length=n.places.toNat∧∀ y,0≤y→y<n.places→getI l y=never∨(0≤getI l y∧getI l y≤2880∧Reach (waysL n p but) (fun x=>endOf high (spanW x p)) frm start y (getI l y))
def lower (m:Nat) (d:Int→Int) (y:Int):Nat:=((List.range m).filter fun (i:Nat)=>decide (d i<d y)).length
end
end Go.Ab
namespace Go.Ab
open Go.RowKit Go.Proofs
set_option maxHeartbeats 4000000
set_option maxRecDepth 20000
attribute [local irreducible] WalkL Walk
theorem z552 (l:List Span):headIs 2 (l.map Span.row)=true:=by cases l <;> rfl
theorem zf7 (n:Net) (hs:n.Small):Fn Tryz.prog 7 [.agg n.cells] (.agg n.cells):=by
 have hpl:=hs.paths
 refine z10 33 Tryz.call7 Tryz.func7 rfl (by decide) fun J=>?_
 simp only [go_sem,St.start,Tryz.ntmps7,Tryz.results7,Net.cells]
 repeat (first|refine nx ?_|(refine z3 fun K hK=>?_;simp only [go_sem];apply hK;clear hK K))
 refine z12 (fun (i:Nat)=>[(4,.d (.i i))]) (fun i=>[(3,some (.box [.d (.i n.places),.own 30])),(30,some (.arr 48 8 ((n.paths.take i).map Path.row)))]) (fun i=>i≤n.paths.length) (fun i=>n.paths.length - i) 0 ?_ (Nat.zero_le _) ?_
 ·simp only [go_sem]
  refine z32 [30] ?_ ?_ rfl rfl <;> simp [lessT,lessM,lessB,AV.less]
 ·intro i hi
  simp only [go_sem]
  repeat (first|refine nx ?_|(refine z3 fun K hK=>?_;simp only [go_sem];apply hK;clear hK K))
  refine z4 rfl (fun hb=>?_) (fun hb=>?_)
  ·have hlt:i<n.paths.length:=by simpa using hb
   have hw:IntKind.i64.wrap ((i:Int) + 1)=((i + 1:Nat):Int):=by rw [z9 (by omega)];simp
   obtain⟨x,hx⟩:∃ x,n.paths[i]?=some x:=⟨_,List.getElem?_eq_getElem hlt⟩
   have hxo:=hs.opens x (List.mem_of_getElem? hx)
   have h1:x.opens.length≤549755813888:=by omega
   have h2:min i n.paths.length + 1≤549755813888:=by omega
   have h3:(n.paths.take (i + 1)).map Path.row=(n.paths.take i).map Path.row++[x.row]:=by rw [List.take_add_one,hx];simp
   repeat (first|refine nx ?_|(refine z3 fun K hK=>?_;simp only [go_sem,hx,List.getElem?_map,Path.row,h1,h2,z552,List.length_take,hw];apply hK;clear hK K))
   refine⟨rfl,i + 1,?_,hlt,by omega⟩
   rw [h3]
   refine weA ?_ ?_ <;> simp
   first | done | rfl
  ·have he:i=n.paths.length:=by (have:¬ i<n.paths.length:=by simpa using hb);omega
   subst he
   repeat (first|refine nx ?_|(refine z3 fun K hK=>?_;simp only [go_sem];apply hK;clear hK K))
   simp only [go_sem,List.take_length]
end Go.Ab
/- Plain laws of layer 1: what the document returns is what the program returns. -/
namespace Go.Ab
open Go.RowKit Go.Proofs
set_option maxHeartbeats 1000000
section
variable {n:Net} {p:Party} {frm start to deadline:Int}
end
end Go.Ab
namespace Go.Ab
open Go.RowKit Go.Proofs
set_option maxHeartbeats 4000000
set_option maxRecDepth 20000
attribute [local irreducible] WalkL Walk
def checkTurnF (n:Net) (p:Party) (route:List Int) (frm start home deadline:Int):Int :=
 if openF n p [frm,home] [start,deadline]=0 then (if isRouteB n p frm route=true then 0 else 12) else openF n p [frm,home] [start,deadline]
end Go.Ab
/- Plain laws of layer 1: the route that is returned. -/
namespace Go.Ab
open Go.RowKit Go.Proofs
set_option maxHeartbeats 1000000
inductive Trail (n:Net) (p:Party):Int→Int→List Int→Int→Int→Prop where
 | nil (y t:Int):Trail n p y t [] y t
 | cons {y t z u:Int} {r:List Int} (w:Nat × Path) (hm:w ∈ waysL n p (-1)) (hf:w.2.frm=y) (hle:arriveF w.2.opens t (spanW w.2 p).hi≤2880)
   (h:Trail n p w.2.to (arriveF w.2.opens t (spanW w.2 p).hi) r z u):Trail n p y t ((w.1:Int)::r) z u
inductive ReachN (n:Net) (p:Party) (x s:Int):Nat→Int→Int→Prop where
 | refl:ReachN n p x s 0 x s
 | step {k:Nat} {y t:Int} (w:Nat × Path):ReachN n p x s k y t→w ∈ waysL n p (-1)→w.2.frm=y→arriveF w.2.opens t (spanW w.2 p).hi≤2880→ReachN n p x s (k + 1) w.2.to (arriveF w.2.opens t (spanW w.2 p).hi)
theorem ReachN.reach {n:Net} {p:Party} {x s:Int} {k:Nat} {y t:Int} (h:ReachN n p x s k y t):Reach (waysL n p (-1)) (durHi p) x s y t:=by
 induction h with
 | refl=>exact .refl
 | step w _ hm hf hle ih=>exact .step w ih hm hf hle
theorem Trail.reach {n:Net} {p:Party} {y t z u:Int} {r:List Int} (h:Trail n p y t r z u):Reach (waysL n p (-1)) (durHi p) y t z u:=by
 induction h with
 | nil=>exact .refl
 | cons w hm hf hle _ ih =>
  subst hf
  exact Reach.trans (Reach.one (dur:=durHi p) hm hle) ih
section
variable {n:Net} {p:Party} {frm start:Int}
def NowInv (n:Net) (p:Party) (frm start:Int) (k:Nat) (l:List Int):Prop :=
 l.length=n.places.toNat∧∀ y,0≤y→y<n.places→getI l y=never∨(0≤getI l y∧getI l y≤2880∧ReachN n p frm start k y (getI l y))
theorem z157 {m:Nat} {y:Int} (hy:0≤y) (hm:y<m):getI (List.replicate m (-1:Int)) y=-1:=by
 unfold getI;rw [List.getD_eq_getElem?_getD,List.getElem?_replicate,if_pos (by omega)];rfl
end
end Go.Ab
/- Plain laws of layer 1: the route that is returned,path by path. -/
namespace Go.Ab
open Go.RowKit Go.Proofs
set_option maxHeartbeats 1000000
def lexLe:List Int→List Int→Prop
 | [],_=>True
 | _::_,[]=>False
 | a::l,b::m=>a<b∨(a=b∧lexLe l m)
section
variable {n:Net} {p:Party} {to arr:Int}
theorem z224 (hn:n.Good) (hp:p.Good) {cur:List Int} (t y:Int) (hy:0≤y):∀ (ws:List (Nat × Path)) (l:List Int),(∀ w ∈ ws,w ∈ waysL n p (-1))→l.length=n.places.toNat →
  (t≤getI (ws.foldl (relaxBy p cur) l) y↔t≤getI l y∨∃ w ∈ ws,w.2.frm=y∧t≤latestF w.2.opens (wr (getI cur w.2.to - (spanW w.2 p).hi))):=by
 intro ws
 induction ws with
 | nil=>intro l _ _;simp
 | cons v ws ih =>
  intro l hs hl
  obtain⟨v1,_,_⟩:=(z503 hn hp (-1)).1 v (hs v (by simp))
  have hsz:v.2.frm.toNat<l.length:=by omega
  rw [List.foldl_cons,ih _ (fun w hw=>hs w (by simp [hw])) (by rw [z877,hl])]
  unfold relaxBy
  rw [z571 _ _ _ _ v1.1 hsz hy]
  simp only [List.mem_cons,exists_eq_or_imp]
  by_cases h:y=v.2.frm
  ·subst h
   rw [if_pos rfl]
   constructor
   ·rintro (h1 | h1)
    ·by_cases h2:t≤getI l v.2.frm
     ·exact .inl h2
     ·exact .inr (.inl ⟨rfl,by omega⟩)
    ·exact .inr (.inr h1)
   ·rintro (h1 | ⟨_,h1⟩ | h1)
    ·exact .inl (by omega)
    ·exact .inl (by omega)
    ·exact .inr h1
  ·rw [if_neg h]
   constructor
   ·rintro (h1 | h1)
    ·exact .inl h1
    ·exact .inr (.inr h1)
   ·rintro (h1 | ⟨h2,_⟩ | h1)
    ·exact .inl h1
    ·exact absurd h2.symm h
    ·exact .inr h1
theorem z1148 (hn:n.Good) (hp:p.Good) (ht:0≤to∧to<n.places) (ha:0≤arr∧arr≤2880):∀ (k:Nat) (y:Int),0≤y→y<n.places→-1≤getI (byL n p to arr k) y∧getI (byL n p to arr k) y≤2880
 | 0,y,hy,hyn=>by
  have hl:to.toNat<(List.replicate n.places.toNat (-1:Int)).length:=by simp;omega
  show -1≤getI (deadlines0 n to arr) y∧getI (deadlines0 n to arr) y≤2880
  unfold deadlines0
  rw [z571 _ _ _ _ ht.1 hl hy]
  split
  ·omega
  ·rw [z157 hy (by omega)];omega
 | k + 1,y,hy,hyn=>by
  obtain⟨c,hc⟩:∃ c,c=byL n p to arr k:=⟨_,rfl⟩
  have e:byL n p to arr (k + 1)=byNext n p c:=by rw [hc];rfl
  rw [e]
  constructor
  ·refine (z224 hn hp (-1) y hy (waysL n p (-1)) _ (fun _ h=>h) (by simp)).2 (.inl ?_)
   rw [z157 hy (by omega)];exact Int.le_refl _
  ·by_cases h:getI (byNext n p c) y≤2880
   ·exact h
   ·exfalso
    rcases (z224 (cur:=c) hn hp 2881 y hy (waysL n p (-1)) (List.replicate n.places.toNat (-1)) (fun _ h=>h) (by simp)).1 (by unfold byNext at h;omega) with h1 | ⟨w,hw,_,h1⟩
    ·rw [z157 hy (by omega)] at h1;omega
    ·have:=z478 (wr (getI c w.2.to - (spanW w.2 p).hi)) w.2.opens (-1) (by omega) (hn.hi w.2 (List.mem_of_getElem? (z179 hw)))
     change latestF _ _≤2880 at this
     omega
theorem z1235 (hn:n.Good) (hp:p.Good) (ht:0≤to∧to<n.places) (ha:0≤arr∧arr≤2880) (k:Nat) {y t:Int} (hy:0≤y) (hyn:y<n.places) (h0:0≤t) :
  t≤getI (byL n p to arr (k + 1)) y↔∃ w ∈ waysL n p (-1),w.2.frm=y∧arriveF w.2.opens t (spanW w.2 p).hi≤getI (byL n p to arr k) w.2.to:=by
 obtain⟨c,hc⟩:∃ c,c=byL n p to arr k:=⟨_,rfl⟩
 have e:byL n p to arr (k + 1)=byNext n p c:=by rw [hc];rfl
 have hr:=z1148 hn hp ht ha k
 rw [e,← hc]
 rw [← hc] at hr
 unfold byNext
 rw [z224 hn hp t y hy (waysL n p (-1)) _ (fun _ h=>h) (by simp),z157 hy (by omega)]
 constructor
 ·rintro (h1 | ⟨w,hw,hf,h1⟩)
  ·omega
  ·obtain⟨_,w2,w3⟩:=(z503 hn hp (-1)).1 w hw
   have hb:=hr w.2.to w2.1 w2.2
   exact⟨w,hw,hf,(z477 h0 w3 hb.2 hb.1).1 h1⟩
 ·rintro⟨w,hw,hf,h1⟩
  obtain⟨_,w2,w3⟩:=(z503 hn hp (-1)).1 w hw
  have hb:=hr w.2.to w2.1 w2.2
  exact .inr ⟨w,hw,hf,(z477 h0 w3 hb.2 hb.1).2 h1⟩
theorem z1234 (ht:0≤to∧to<n.places) {y t:Int} (hy:0≤y) (hyn:y<n.places) (h0:0≤t):t≤getI (byL n p to arr 0) y↔y=to∧t≤arr:=by
 have hl:to.toNat<(List.replicate n.places.toNat (-1:Int)).length:=by simp;omega
 show t≤getI (deadlines0 n to arr) y↔_
 unfold deadlines0
 rw [z571 _ _ _ _ ht.1 hl hy]
 split
 ·rename_i h;subst h;simp
 ·rename_i h
  rw [z157 hy (by omega)]
  constructor
  ·intro h1;omega
  ·rintro⟨h1,_⟩;exact absurd h1 h
theorem Trail.by (hn:n.Good) (hp:p.Good) (ht:0≤to∧to<n.places) (ha:0≤arr∧arr≤2880) {y t z u:Int} {r:List Int} (h:Trail n p y t r z u):0≤y→y<n.places→0≤t→z=to→u≤arr→t≤getI (byL n p to arr r.length) y:=by
 induction h with
 | nil y t =>
  intro hy hyn h0 hz hu
  exact (z1234 ht hy hyn h0).2 ⟨hz,hu⟩
 | @cons y t z u r w hm hf hle hr ih =>
  intro hy hyn h0 hz hu
  obtain⟨_,w2,w3⟩:=(z503 hn hp (-1)).1 w hm
  have w3:okTime (spanW w.2 p).hi:=w3
  have h1:0≤arriveF w.2.opens t (spanW w.2 p).hi:=by
   have hv:never=1073741824:=rfl
   rcases z140 (opens:=w.2.opens) h0 w3 with h | h
   ·omega
   ·unfold okTime at w3;omega
  exact (z1235 hn hp ht ha r.length hy hyn h0).2 ⟨w,hm,hf,ih w2.1 w2.2 h1 hz hu⟩
end
end Go.Ab
/- Plain laws of layer 1: a path that is shut;paths that must stay open. -/
namespace Go.Ab
open Go.RowKit Go.Proofs
set_option maxHeartbeats 1000000
def Path.shut (x:Path):Path:={ x with opens:=[] }
def Net.shut (n:Net) (i:Nat):Net:={ n with paths:=n.paths.modify i Path.shut }
section
variable {n:Net} {p:Party} {frm start:Int}
end
end Go.Ab
/- Plain laws of layer 1: who walks a route comes in time. -/
namespace Go.Ab
open Go.RowKit Go.Proofs
set_option maxHeartbeats 1000000
theorem z688 (n:Net) (p:Party) (s:Int × Int) (v:Int) (r:List Int) (i:Nat):posR n p s (v::r) (i + 1)=posR n p (goOn n p s v) r i:=rfl
theorem z470 {n:Net} {p:Party} {but:Int} {w:Nat × Path} (h:w ∈ waysL n p but):pathAt n (w.1:Int)=w.2:=by
 have:=z179 h
 simp [pathAt,List.getD,this]
section
variable {n:Net} {p:Party}
theorem Trail.at {y t z u:Int} {r:List Int} (h:Trail n p y t r z u):∀ (i:Nat) v,r[i]?=some v→∃ w ∈ waysL n p (-1),(w.1:Int)=v∧pathAt n v=w.2∧w.2.frm=(posR n p (y,t) r i).1∧arriveF w.2.opens (posR n p (y,t) r i).2 (spanW w.2 p).hi≤2880:=by
 induction h with
 | nil=>intro i v hv;simp at hv
 | @cons y t z u r w hm hf hle hr ih =>
  intro i v hv
  have hp:=z470 hm
  cases i with
  | zero =>
   simp at hv
   subst hv
   exact⟨w,hm,rfl,hp,hf,hle⟩
  | succ i =>
   rw [z688]
   have hg:goOn n p (y,t) (w.1:Int)=(w.2.to,arriveF w.2.opens t (spanW w.2 p).hi):=by unfold goOn;rw [hp]
   rw [hg]
   exact ih i v (by simpa using hv)
theorem Trail.last {y t z u:Int} {r:List Int} (h:Trail n p y t r z u):posR n p (y,t) r r.length=(z,u):=by
 induction h with
 | nil=>rfl
 | @cons y t z u r w hm hf hle hr ih =>
  rw [List.length_cons,z688]
  have hg:goOn n p (y,t) (w.1:Int)=(w.2.to,arriveF w.2.opens t (spanW w.2 p).hi):=by unfold goOn;rw [z470 hm]
  rw [hg]
  exact ih
theorem Trail.walkR {y t z u:Int} {r:List Int} (h:Trail n p y t r z u):Go.Ab.walkR n p y r=some z:=by
 induction h with
 | nil=>rfl
 | @cons y t z u r w hm hf hle hr ih =>
  obtain⟨g1,g2,_⟩:=z1066.1 hm
  have hlt:=(List.getElem?_eq_some_iff.1 g1).1
  have ho:onB n p y (w.1:Int)=some w.2.to:=by
   unfold onB
   rw [if_pos (z20.2 (by omega)),Int.toNat_natCast,g1]
   simp [g2,hf]
  show List.foldl _ (onB n p y (w.1:Int)) r=some z
  rw [ho]
  exact ih
end
end Go.Ab
namespace Go.Ab
open Go.RowKit Go.Proofs
set_option maxHeartbeats 4000000
set_option maxRecDepth 20000
attribute [local irreducible] WalkL Walk
theorem z1060 (n lo hi:Int):Fn Tryz.prog 32 [.i n,.i lo,.i hi] (.bool (withinB n lo hi)):=by
 refine z10 15 Tryz.call32 Tryz.func32 rfl (by decide) fun J=>?_
 simp only [go_sem,St.start,Tryz.ntmps32,Tryz.results32]
 by_cases h:lo≤n
 ·repeat (first|refine nx ?_|(refine z3 fun K hK=>?_;simp only [go_sem,h];apply hK;clear hK K))
  simp only [go_sem,withinB,h]
 ·repeat (first|refine nx ?_|(refine z3 fun K hK=>?_;simp only [go_sem,h];apply hK;clear hK K))
  simp only [go_sem,withinB,h]
def canTo (n:Net) (p:Party):Nat→List (Nat × Path)
 | 0=>[]
 | k + 1=>canTo n p k++(match n.paths[k]? with
  | some x=>if x.grade≤p.grade then [(k,x)] else []
  | none=>[])
def entsC (p:Party):List (Nat × Path)→Nat→List (MK × DV × Nat)
 | [],_=>[]
 | w::l,j=>(.i w.1,.agg (spanW w.2 p).row,j)::entsC p l (j + 1)
def mapD (es:List (MK × DV × Nat)) (c:Nat):DV:=.mp none (es.map fun e=>(e.1,e.2.2)) (es.map fun e=>e.2.1) c
def canL (n:Net) (p:Party):List (Nat × Path):=canTo n p n.paths.length
def timesD (n:Net) (p:Party):DV:=mapD (entsC p (canL n p) 0) (canL n p).length
def countryC (n:Net) (p:Party):List DV:=[.i n.places,.sl (n.paths.map Path.row),timesD n p]
def travC (n:Net) (p:Party):List DV:=if checkPartyF n p=0 then countryC n p else [.i 0,.sl [],.any]
theorem z103 {n:Net} {p:Party}:∀ {k:Nat} {w:Nat × Path},w ∈ canTo n p k→w.1<k∧n.paths[w.1]?=some w.2∧w.2.grade≤p.grade
 | 0,w,h=>by simp [canTo] at h
 | k + 1,w,h=>by
  rw [canTo,List.mem_append] at h
  rcases h with h | h
  ·obtain⟨h1,h2⟩:=z103 h;exact⟨by omega,h2⟩
  ·split at h
   ·rename_i x hx
    split at h
    ·rename_i hg
     simp at h;subst h;exact⟨by simp,hx,hg⟩
    ·simp at h
   ·simp at h
theorem z385 {n:Net} {p:Party} {i:Nat} {x:Path} (hx:n.paths[i]?=some x) (hg:x.grade≤p.grade):∀ {k:Nat},i<k→(i,x) ∈ canTo n p k
 | 0,h=>by omega
 | k + 1,h=>by
  rw [canTo,List.mem_append]
  by_cases hk:i<k
  ·exact .inl (z385 hx hg hk)
  ·have:i=k:=by omega
   subst this
   exact .inr (by simp [hx,hg])
theorem z493 (p:Party) (w:Nat × Path):∀ (l:List (Nat × Path)) (j:Nat),entsC p (l++[w]) j=entsC p l j++[(.i w.1,.agg (spanW w.2 p).row,j + l.length)]
 | [],j=>by simp [entsC]
 | x::l,j=>by simp [entsC,z493 p w l];omega
theorem z738 (p:Party):∀ (l:List (Nat × Path)) (j:Nat),(entsC p l j).length=l.length
 | [],_=>rfl
 | w::l,j=>by simp [entsC,z738 p l]
theorem z288 (p:Party) {k:Int}:∀ (l:List (Nat × Path)) (j i:Nat),(∀ w ∈ l,(w.1:Int)≠k)→findE (entsC p l j) (.i k) i=none
 | [],_,_,_=>rfl
 | w::l,j,i,h=>by
  have h1:=h w (by simp)
  rw [entsC,findE,if_neg (by simp;exact fun e=>h1 e.symm)]
  exact z288 p l _ _ fun w hw=>h w (by simp [hw])
theorem z492 (p:Party) {w:Nat × Path}:∀ (l:List (Nat × Path)) (j i:Nat),w ∈ l→(∀ v ∈ l,v.1=w.1→v=w)→∃ q b,findE (entsC p l j) (.i w.1) i=some (q,.agg (spanW w.2 p).row,b)
 | [],_,_,h,_=>by simp at h
 | v::l,j,i,h,hu=>by
  rw [entsC,findE]
  by_cases hv:v.1=w.1
  ·rw [if_pos (by simp [hv]),hu v (by simp) hv]
   exact⟨_,_,rfl⟩
  ·rw [if_neg (by simp;omega)]
   rcases List.mem_cons.1 h with rfl | h
   ·exact absurd rfl hv
   ·exact z492 p l _ _ h fun v hv=>hu v (by simp [hv])
theorem z1329 (n:Net) (p:Party) (hs:n.Small):Fn Tryz.prog 19 [.agg n.cells,.agg p.cells] (.tup [.agg (travC n p),.i (checkPartyF n p)]):=by
 have h66:=z1327 n hs
 have h18:=z1404 n p 0 0 hs
 have hlen:=hs.paths
 refine z10 55 Tryz.call19 Tryz.func19 rfl (by decide) fun J=>?_
 simp only [go_sem,St.start,Tryz.ntmps19,Tryz.results19,Net.cells,Party.cells]
 repeat (first|refine nx ?_|(refine z3 fun K hK=>?_;simp only [go_sem];(repeat (first|(refine⟨_,.lent (hf:=h66) (hd:=rfl) (hr:=rfl),?_⟩;simp only [go_sem])|(refine⟨_,.given (hf:=h66) (hd:=rfl) (ha:=rfl),?_⟩;simp only [go_sem])));apply hK;clear hK K))
 refine z4 rfl (fun hc=>?_) (fun hc=>?_)
 ·have hc:checkF n≠0:=by simpa using hc
  have hb:badNet n=true:=by
   simp only [checkF] at hc
   by_cases hb:badNet n=true
   ·exact hb
   ·rw [if_neg hb] at hc;exact absurd rfl hc
  have e1:checkF n=checkPartyF n p:=by rw [checkF,checkPartyF,if_pos hb,if_pos hb]
  rw [e1] at hc
  repeat (first|refine nx ?_|(refine z3 fun K hK=>?_;simp only [go_sem];apply hK;clear hK K))
  simp only [go_sem,travC,hc,e1]
 have hnb:¬ badNet n=true:=by
  intro hb
  rw [checkF,if_pos hb] at hc
  simp at hc
 have hpl:=z222 hnb
 have e2:(arriveL n p 0 0).2.2=checkPartyF n p:=by
  have h1:openF n p [0] [0]=checkPartyF n p:=by
   rw [openF,checkPartyF,if_neg hnb,if_neg hnb]
   have:badAsk n [0] [0]=false:=by
    have:withinB 0 0 (n.places - 1)=true:=z20.2 (by omega)
    simp [badAsk,this]
    decide
   rw [this]
   rfl
  rw [arriveL]
  split
  ·rename_i h;rw [← h1,h]
  ·exact h1
 rw [e2] at h18
 repeat (first|refine nx ?_|(refine z3 fun K hK=>?_;simp only [go_sem];(repeat (first|(refine⟨_,.lent (hf:=h18) (hd:=rfl) (hr:=rfl),?_⟩;simp only [go_sem])|(refine⟨_,.given (hf:=h18) (hd:=rfl) (ha:=rfl),?_⟩;simp only [go_sem])));apply hK;clear hK K))
 refine z4 rfl (fun hc=>?_) (fun hc=>?_)
 ·have hc:checkPartyF n p≠0:=by simpa using hc
  repeat (first|refine nx ?_|(refine z3 fun K hK=>?_;simp only [go_sem];apply hK;clear hK K))
  simp only [go_sem,travC,hc]
 have hok:checkPartyF n p=0:=by simpa using hc
 repeat (first|refine nx ?_|(refine z3 fun K hK=>?_;simp only [go_sem];apply hK;clear hK K))
 refine z12 (fun (k:Nat)=>[(37,.d (.i k))]) (fun k=>[(32,some (.mp none (entsC p (canTo n p k) 0) (canTo n p k).length))]) (fun k=>k≤n.paths.length) (fun k=>n.paths.length - k) 0 ?_ (Nat.zero_le _) ?_
 ·simp only [go_sem,canTo,entsC]
  refine weA ?_ ?_ <;> simp
 ·intro k hk
  simp only [go_sem]
  repeat (first|refine nx ?_|(refine z3 fun K hK=>?_;simp only [go_sem];apply hK;clear hK K))
  refine z4 rfl (fun hb=>?_) (fun hb=>?_)
  ·have hlt:k<n.paths.length:=by simpa using hb
   have hw:IntKind.i64.wrap ((k:Int) + 1)=((k + 1:Nat):Int):=by rw [z9 (by omega)];simp
   have h67:=z1403 n p k hs
   obtain⟨x,hx⟩:∃ x,n.paths[k]?=some x:=⟨_,List.getElem?_eq_getElem hlt⟩
   have hwf:walkF n p k=if x.grade≤p.grade then (spanW x p,0) else (⟨0,0⟩,3):=by
    have hwi:withinB (k:Int) 0 ((n.paths.length:Int) - 1)=true:=z20.2 (by omega)
    simp [walkF,hok,hwi,hx]
   by_cases hg:x.grade≤p.grade
   ·rw [hwf,if_pos hg] at h67
    rw [Span.row] at h67
    have hfn:=z288 p (k:=(k:Int)) (canTo n p k) 0 0 (fun w hw=>by have:=(z103 hw).1;omega)
    have hpush:=z493 p (k,x) (canTo n p k) 0
    repeat (first|refine nx ?_|(refine z3 fun K hK=>?_;simp only [go_sem];(repeat (first|(refine⟨_,.lent (hf:=h67) (hd:=rfl) (hr:=rfl),?_⟩;simp only [go_sem])|(refine⟨_,.given (hf:=h67) (hd:=rfl) (ha:=rfl),?_⟩;simp only [go_sem])));apply hK;clear hK K))
    refine z8 rfl ?_
    have hk1:canTo n p (k + 1)=canTo n p k++[(k,x)]:=by simp [canTo,hx,hg]
    repeat (first|refine nx ?_|(refine z3 fun K hK=>?_;simp only [go_sem,hfn,Span.row,hw];apply hK;clear hK K))
    refine⟨rfl,k + 1,?_,hlt,by omega⟩
    simp only [go_sem,hk1,hpush,Span.row,List.length_append,List.length_cons,List.length_nil,Nat.zero_add]
    refine weA ?_ ?_ <;> simp
   ·rw [hwf,if_neg hg] at h67
    rw [Span.row] at h67
    repeat (first|refine nx ?_|(refine z3 fun K hK=>?_;simp only [go_sem];(repeat (first|(refine⟨_,.lent (hf:=h67) (hd:=rfl) (hr:=rfl),?_⟩;simp only [go_sem])|(refine⟨_,.given (hf:=h67) (hd:=rfl) (ha:=rfl),?_⟩;simp only [go_sem])));apply hK;clear hK K))
    refine z5 rfl ?_
    have hk1:canTo n p (k + 1)=canTo n p k:=by simp [canTo,hx,hg]
    repeat (first|refine nx ?_|(refine z3 fun K hK=>?_;simp only [go_sem,hw];apply hK;clear hK K))
    refine⟨rfl,k + 1,?_,hlt,by omega⟩
    simp only [go_sem,hk1]
    refine weA ?_ ?_ <;> simp
  ·have he:k=n.paths.length:=by (have:¬ k<n.paths.length:=by simpa using hb);omega
   subst he
   repeat (first|refine nx ?_|(refine z3 fun K hK=>?_;simp only [go_sem];apply hK;clear hK K))
   simp only [go_sem,travC,hok]
   rfl
end Go.Ab
namespace Go.Ab
open Go.RowKit Go.Proofs
set_option maxHeartbeats 4000000
set_option maxRecDepth 20000
attribute [local irreducible] WalkL Walk
structure Clue where
 minute:Int
 places:Int
 seen:Bool
structure Missed where
 party:Party
 place:Int
 start:Int
 now:Int
 rest:Int
 clues:List Clue
def Clue.row (c:Clue):List DV:=[.i c.minute,.i c.places,.bool c.seen]
def Missed.row (x:Missed):List DV:=[.i x.party.grade,.i x.party.load,.i x.party.pace.lo,.i x.party.pace.hi,.i x.place,.i x.start,.i x.now,.i x.rest,.sl (x.clues.map Clue.row)]
def huntC (n:Net) (x:Missed):List DV:=[.i n.places,.sl (n.paths.map Path.row),timesD n x.party,.i x.party.grade,.i x.party.load,.i x.party.pace.lo,.i x.party.pace.hi,.i x.place,.i x.start,.i x.now,.i x.rest,.sl (x.clues.map Clue.row)]
def hasB (set i:Int):Bool:=bAnd .i64 (bShr .i64 set i) 1 == 1
def atB (cl:List Clue) (place minute:Int):Bool:=!cl.any fun c=>c.minute == minute && (hasB c.places place != c.seen)
def onB8 (cl:List Clue) (minute:Int):Bool:=!cl.any fun c=>c.minute == minute && c.seen
def fullS (n:Net):Int:=wr (bShl .i64 1 n.places - 1)
def wrongC (n:Net) (x:Missed) (c:Clue):Bool:=!withinB c.minute x.start x.now || !withinB c.places 1 (fullS n)
def badHunt (n:Net) (x:Missed):Bool:=!withinB x.place 0 (n.places - 1) || (!withinB x.start 0 2880 || (!withinB x.rest 0 600 || !withinB x.now x.start 2880))
def openX (n:Net) (x:Missed):Int:=if checkPartyF n x.party≠0 then checkPartyF n x.party else if badHunt n x then 80 else if decide ((x.clues.length:Int) > 12) || x.clues.any (wrongC n x) then 81 else 0
theorem z1356 (xs:List Clue) (g:Nat) (caps:List DV) (q:Clue→Bool) (hq:∀ s ∈ xs,Fn Tryz.prog g (.agg s.row::caps) (.bool (q s))) (hl:xs.length<2 ^ 62):Fn Tryz.prog 87 [.sl (xs.map Clue.row),.fn g caps] (.i (idxFrom q xs 0)):=by
 refine z10 19 Tryz.call87 Tryz.func87 rfl (by decide) fun J=>?_
 simp only [go_sem,St.start,Tryz.ntmps87,Tryz.results87]
 repeat (first|refine nx ?_|(refine z3 fun K hK=>?_;simp only [go_sem];apply hK;clear hK K))
 refine z12 (fun (i:Nat)=>[(8,.d (.i i))]) (fun _=>[]) (fun i=>i≤xs.length∧idxFrom q xs 0=idxFrom q (xs.drop i) i) (fun i=>xs.length - i) 0 ?_ ⟨Nat.zero_le _,rfl⟩ ?_
 ·simp only [go_sem]
  refine weA ?_ ?_ <;> simp
 ·intro i ⟨hi,hq0⟩
  simp only [go_sem]
  repeat (first|refine nx ?_|(refine z3 fun K hK=>?_;simp only [go_sem];apply hK;clear hK K))
  refine z4 rfl (fun hb=>?_) (fun hb=>?_)
  ·have hlt:i<xs.length:=by simpa using hb
   obtain⟨s,hs⟩:∃ s,xs[i]?=some s:=⟨_,List.getElem?_eq_getElem hlt⟩
   have hw:IntKind.i64.wrap ((i:Int) + 1)=((i + 1:Nat):Int):=by rw [z9 (by omega)];simp
   rw [z86 hs,idxFrom] at hq0
   repeat (first|refine nx ?_|(refine z3 fun K hK=>?_;simp only [go_sem];apply hK;clear hK K))
   refine z3 fun K hK=>?_
   simp only [go_sem,hs,List.getElem?_map,Clue.row,hw]
   refine⟨_,.lent (hf:=hq s (List.mem_of_getElem? hs)) (hd:=z149 _ _ _ _ rfl) (hr:=rfl),?_⟩
   simp only [go_sem]
   apply hK
   clear hK K
   refine z4 rfl (fun hc=>?_) (fun hc=>?_)
   ·rw [hc,if_pos rfl] at hq0
    repeat (first|refine nx ?_|(refine z3 fun K hK=>?_;simp only [go_sem];apply hK;clear hK K))
    simp only [go_sem,hq0]
   ·rw [hc] at hq0
    repeat (first|refine nx ?_|(refine z3 fun K hK=>?_;simp only [go_sem,hw];apply hK;clear hK K))
    refine⟨rfl,i + 1,?_,⟨hlt,hq0⟩,by omega⟩
    refine weA ?_ ?_ <;> simp
  ·have he:i=xs.length:=by have:¬ i<xs.length:=by simpa using hb
                           omega
   subst he
   repeat (first|refine nx ?_|(refine z3 fun K hK=>?_;simp only [go_sem];apply hK;clear hK K))
   simp only [go_sem,hq0,List.drop_length,idxFrom]
theorem z1324 (xs:List Clue) (g:Nat) (caps:List DV) (q:Clue→Bool) (hq:∀ s ∈ xs,Fn Tryz.prog g (.agg s.row::caps) (.bool (q s))) (hl:xs.length<2 ^ 62):Fn Tryz.prog 62 [.sl (xs.map Clue.row),.fn g caps] (.bool (xs.any q)):=by
 refine z10 9 Tryz.call62 Tryz.func62 rfl (by decide) fun J=>?_
 simp only [go_sem,St.start,Tryz.ntmps62,Tryz.results62]
 repeat (first|refine nx ?_|(refine z3 fun K hK=>?_;simp only [go_sem];(repeat (first|(refine⟨_,.lent (hf:=z1356 xs g caps q hq hl) (hd:=rfl) (hr:=rfl),?_⟩;simp only [go_sem])|(refine⟨_,.given (hf:=z1356 xs g caps q hq hl) (hd:=rfl) (ha:=rfl),?_⟩;simp only [go_sem])));apply hK;clear hK K))
 simp only [go_sem,z61]
theorem z1332 (c:Clue) (place minute:Int) (hp:0≤place):Fn Tryz.prog 101 [.agg c.row,.ptr [.i minute] 0,.ptr [.i place] 0] (.bool (c.minute == minute && (hasB c.places place != c.seen))):=by
 have n1:¬ place<0:=by omega
 refine z10 20 Tryz.call101 Tryz.func101 rfl (by decide) fun J=>?_
 simp only [go_sem,St.start,Tryz.ntmps101,Tryz.results101,Clue.row]
 by_cases h:(c.minute == minute)=true
 ·repeat (first|refine nx ?_|(refine z3 fun K hK=>?_;simp only [go_sem,h,n1];apply hK;clear hK K)|(refine z7 (by kernel_rfl) (by kernel_rfl) fun K hK=>?_;simp only [go_sem,h,n1];refine⟨by kernel_rfl,hK _ ?_⟩;clear hK K))
  simp only [go_sem,h,hasB,Bool.true_and,bne]
 ·have h:(c.minute == minute)=false:=by simpa using h
  repeat (first|refine nx ?_|(refine z3 fun K hK=>?_;simp only [go_sem,h,n1];apply hK;clear hK K)|(refine z7 (by kernel_rfl) (by kernel_rfl) fun K hK=>?_;simp only [go_sem,h,n1];refine⟨by kernel_rfl,hK _ ?_⟩;clear hK K))
  simp only [go_sem,h,Bool.false_and]
theorem z1331 (c:Clue) (minute:Int):Fn Tryz.prog 102 [.agg c.row,.ptr [.i minute] 0] (.bool (c.minute == minute && c.seen)):=by
 refine z10 12 Tryz.call102 Tryz.func102 rfl (by decide) fun J=>?_
 simp only [go_sem,St.start,Tryz.ntmps102,Tryz.results102,Clue.row]
 by_cases h:(c.minute == minute)=true
 ·repeat (first|refine nx ?_|(refine z3 fun K hK=>?_;simp only [go_sem,h];apply hK;clear hK K)|(refine z7 (by kernel_rfl) (by kernel_rfl) fun K hK=>?_;simp only [go_sem,h];refine⟨by kernel_rfl,hK _ ?_⟩;clear hK K))
  simp only [go_sem,h,Bool.true_and]
 ·have h:(c.minute == minute)=false:=by simpa using h
  repeat (first|refine nx ?_|(refine z3 fun K hK=>?_;simp only [go_sem,h];apply hK;clear hK K)|(refine z7 (by kernel_rfl) (by kernel_rfl) fun K hK=>?_;simp only [go_sem,h];refine⟨by kernel_rfl,hK _ ?_⟩;clear hK K))
  simp only [go_sem,h,Bool.false_and]
theorem z1320 (n:Net) (x:Missed) (place minute:Int) (hp:0≤place) (hl:x.clues.length<2 ^ 62):Fn Tryz.prog 88 [.ptr (huntC n x) 0,.i place,.i minute] (.bool (atB x.clues place minute)):=by
 have h62:=z1324 x.clues 101 [.ptr [.i minute] 0,.ptr [.i place] 0] _ (fun c _=>z1332 c place minute hp) hl
 refine z10 15 Tryz.call88 Tryz.func88 rfl (by decide) fun J=>?_
 simp only [go_sem,St.start,Tryz.ntmps88,Tryz.results88,huntC]
 repeat (first|refine nx ?_|(refine z3 fun K hK=>?_;simp only [go_sem];(repeat (first|(refine⟨_,.lent (hf:=h62) (hd:=rfl) (hr:=rfl),?_⟩;simp only [go_sem])|(refine⟨_,.given (hf:=h62) (hd:=rfl) (ha:=rfl),?_⟩;simp only [go_sem])));apply hK;clear hK K))
 simp only [go_sem,atB]
theorem z1387 (n:Net) (x:Missed) (minute:Int) (hl:x.clues.length<2 ^ 62):Fn Tryz.prog 91 [.ptr (huntC n x) 0,.i minute] (.bool (onB8 x.clues minute)):=by
 have h62:=z1324 x.clues 102 [.ptr [.i minute] 0] _ (fun c _=>z1331 c minute) hl
 refine z10 13 Tryz.call91 Tryz.func91 rfl (by decide) fun J=>?_
 simp only [go_sem,St.start,Tryz.ntmps91,Tryz.results91,huntC]
 repeat (first|refine nx ?_|(refine z3 fun K hK=>?_;simp only [go_sem];(repeat (first|(refine⟨_,.lent (hf:=h62) (hd:=rfl) (hr:=rfl),?_⟩;simp only [go_sem])|(refine⟨_,.given (hf:=h62) (hd:=rfl) (ha:=rfl),?_⟩;simp only [go_sem])));apply hK;clear hK K))
 simp only [go_sem,onB8]
theorem z1317 (n:Net) (p:Party) (y:Int) (hn:0≤n.places∧n.places<2 ^ 62):Fn Tryz.prog 20 [.agg (countryC n p),.i y] (.bool (withinB y 0 (n.places - 1))):=by
 have hw:IntKind.i64.wrap (n.places - 1)=n.places - 1:=z9 (by omega)
 refine z10 11 Tryz.call20 Tryz.func20 rfl (by decide) fun J=>?_
 simp only [go_sem,St.start,Tryz.ntmps20,Tryz.results20,countryC,timesD,mapD]
 repeat (first|refine nx ?_|(refine z3 fun K hK=>?_;simp only [go_sem,hw];(repeat (first|(refine⟨_,.lent (hf:=z1060 _ _ _) (hd:=rfl) (hr:=rfl),?_⟩;simp only [go_sem,hw])|(refine⟨_,.given (hf:=z1060 _ _ _) (hd:=rfl) (ha:=rfl),?_⟩;simp only [go_sem,hw])));apply hK;clear hK K))
 simp only [go_sem]
theorem z1396 (n:Net) (x:Missed) (c:Clue) (hn:0≤n.places):Fn Tryz.prog 61 [.agg c.row,.ptr x.row 0,.ptr n.cells 0] (.bool (wrongC n x c)):=by
 have n1:¬ n.places<0:=by omega
 have e1:fullS n=IntKind.i64.wrap (bShl .i64 1 n.places - 1):=rfl
 refine z10 23 Tryz.call61 Tryz.func61 rfl (by decide) fun J=>?_
 simp only [go_sem,St.start,Tryz.ntmps61,Tryz.results61,Clue.row,Missed.row,Net.cells]
 repeat (first|refine nx ?_|(refine z3 fun K hK=>?_;simp only [go_sem];apply hK;clear hK K))
 refine z23 [(4,.d (.bool (wrongC n x c)))] [] ?_ ?_
 ·refine z7 (by kernel_rfl) (by kernel_rfl) fun K hK=>?_
  simp only [go_sem,n1]
  refine⟨_,.fn (hf:=z1060 c.minute x.start x.now) (hd:=rfl) (hr:=.inl rfl),?_⟩
  simp only [go_sem,n1]
  by_cases ho0:(!withinB c.minute x.start x.now)=true
  ·simp only [go_sem,n1,ho0]
   refine⟨by kernel_rfl,hK _ ?_⟩
   clear hK K
   refine z11 ?_
   refine z6 ?_
   refine⟨rfl,?_⟩
   rw [show (wrongC n x c)=(true) from by simp [wrongC,ho0]]
   simp only [go_sem]
   refine weA ?_ ?_ <;> simp
  ·simp only [go_sem,n1,ho0]
   refine⟨_,.fn (hf:=z1060 c.places 1 (fullS n)) (hd:=rfl) (hr:=.inl rfl),?_⟩
   simp only [go_sem,n1,ho0]
   refine⟨by kernel_rfl,hK _ ?_⟩
   clear hK K
   refine z11 ?_
   refine z6 ?_
   refine⟨rfl,?_⟩
   rw [show (wrongC n x c)=(!withinB c.places 1 (fullS n)) from by simp [wrongC,ho0]]
   simp only [go_sem]
   refine weA ?_ ?_ <;> simp
 repeat (first|refine nx ?_|(refine z3 fun K hK=>?_;simp only [go_sem];apply hK;clear hK K))
 simp only [go_sem]
end Go.Ab
namespace Go.Ab
open Go.RowKit Go.Proofs
set_option maxHeartbeats 4000000
set_option maxRecDepth 20000
attribute [local irreducible] WalkL Walk
def openD (n:Net) (x:Missed):DV:=if openX n x=0 then .ptr (huntC n x) 0 else .nilptr
theorem z1406 (n:Net) (x:Missed) (hs:n.Small) (hl:x.clues.length<2 ^ 30):Fn Tryz.prog 43 [.agg n.cells,.agg x.row] (.tup [openD n x,.i (openX n x)]):=by
 have h44:=z1329 n x.party hs
 rw [Party.cells] at h44
 refine z10 59 Tryz.call43 Tryz.func43 rfl (by decide) fun J=>?_
 simp only [go_sem,St.start,Tryz.ntmps43,Tryz.results43,Net.cells,Missed.row]
 by_cases hok:checkPartyF n x.party=0
 ·have hnb:¬ badNet n=true:=by
   intro hb
   rw [checkPartyF,if_pos hb] at hok
   simp at hok
  have hpl:=z222 hnb
  rw [travC,if_pos hok,countryC,timesD,mapD,hok] at h44
  have h45:=z1317 n x.party x.place (by omega)
  rw [countryC,timesD,mapD] at h45
  repeat (first|refine nx ?_|(refine z3 fun K hK=>?_;simp only [go_sem];(repeat (first|(refine⟨_,.lent (hf:=h44) (hd:=rfl) (hr:=rfl),?_⟩;simp only [go_sem])|(refine⟨_,.given (hf:=h44) (hd:=rfl) (ha:=rfl),?_⟩;simp only [go_sem])));apply hK;clear hK K))
  refine z5 rfl ?_
  repeat (first|refine nx ?_|(refine z3 fun K hK=>?_;simp only [go_sem];apply hK;clear hK K))
  refine z23 [(43,.d (.bool (badHunt n x)))] [] ?_ ?_
  ·refine z3 fun K hK=>?_
   simp only [go_sem]
   refine⟨_,.lent (hf:=h45) (hd:=rfl) (hr:=rfl),?_⟩
   simp only [go_sem]
   by_cases ho0:(!withinB x.place 0 (n.places - 1))=true
   ·simp only [go_sem,ho0]
    apply hK
    clear hK K
    refine z11 ?_
    refine z6 ?_
    refine⟨rfl,?_⟩
    rw [show (badHunt n x)=(true) from by simp [badHunt,ho0]]
    simp only [go_sem]
    refine weA ?_ ?_ <;> simp
   ·simp only [go_sem,ho0]
    refine⟨_,.lent (hf:=z1060 x.start 0 2880) (hd:=rfl) (hr:=rfl),?_⟩
    simp only [go_sem,ho0]
    by_cases ho1:(!withinB x.start 0 2880)=true
    ·simp only [go_sem,ho0,ho1]
     apply hK
     clear hK K
     refine z11 ?_
     refine z6 ?_
     refine⟨rfl,?_⟩
     rw [show (badHunt n x)=(true) from by simp [badHunt,ho0,ho1]]
     simp only [go_sem]
     refine weA ?_ ?_ <;> simp
    ·simp only [go_sem,ho0,ho1]
     refine⟨_,.lent (hf:=z1060 x.rest 0 600) (hd:=rfl) (hr:=rfl),?_⟩
     simp only [go_sem,ho0,ho1]
     by_cases ho2:(!withinB x.rest 0 600)=true
     ·simp only [go_sem,ho0,ho1,ho2]
      apply hK
      clear hK K
      refine z11 ?_
      refine z6 ?_
      refine⟨rfl,?_⟩
      rw [show (badHunt n x)=(true) from by simp [badHunt,ho0,ho1,ho2]]
      simp only [go_sem]
      refine weA ?_ ?_ <;> simp
     ·simp only [go_sem,ho0,ho1,ho2]
      refine⟨_,.lent (hf:=z1060 x.now x.start 2880) (hd:=rfl) (hr:=rfl),?_⟩
      simp only [go_sem,ho0,ho1,ho2]
      apply hK
      clear hK K
      refine z11 ?_
      refine z6 ?_
      refine⟨rfl,?_⟩
      rw [show (badHunt n x)=(!withinB x.now x.start 2880) from by simp [badHunt,ho0,ho1,ho2]]
      simp only [go_sem]
      refine weA ?_ ?_ <;> simp
  simp only [go_sem]
  by_cases hb:badHunt n x=true
  ·have e:openX n x=80:=by simp [openX,hok,hb]
   rw [openD,e]
   refine z4 (b:=true) (by rw [← hb];rfl) (fun _=>?_) (fun hc=>by cases hc)
   repeat (first|refine nx ?_|(refine z3 fun K hK=>?_;simp only [go_sem];apply hK;clear hK K))
   simp only [go_sem]
  ·have hb:badHunt n x=false:=by simpa using hb
   refine z4 (b:=false) (by rw [← hb];rfl) (fun hc=>by cases hc) (fun _=>?_)
   have h61:∀ c ∈ x.clues,Fn Tryz.prog 61 [.agg c.row,.ptr [.i x.party.grade,.i x.party.load,.i x.party.pace.lo,.i x.party.pace.hi,.i x.place,.i x.start,.i x.now,.i x.rest,.sl (x.clues.map Clue.row)] 0,.ptr [.i n.places,.sl (n.paths.map Path.row)] 0] (.bool (wrongC n x c)):=fun c _=>z1396 n x c (by omega)
   have h62:=z1324 x.clues 61 _ _ h61 (by omega)
   by_cases h12:decide ((x.clues.length:Int) > 12)=true
   ·repeat (first|refine nx ?_|(refine z3 fun K hK=>?_;simp only [go_sem,h12];apply hK;clear hK K))
    refine z8 rfl ?_
    repeat (first|refine nx ?_|(refine z3 fun K hK=>?_;simp only [go_sem];apply hK;clear hK K))
    have e:openX n x=81:=by simp only [openX,hok,hb,h12,Bool.true_or];rfl
    rw [openD,e]
    simp only [go_sem]
   ·have h12:decide ((x.clues.length:Int) > 12)=false:=by simpa using h12
    repeat (first|refine nx ?_|(refine z3 fun K hK=>?_;simp only [go_sem,h12];(repeat (first|(refine⟨_,.lent (hf:=h62) (hd:=rfl) (hr:=rfl),?_⟩;simp only [go_sem,h12])|(refine⟨_,.given (hf:=h62) (hd:=rfl) (ha:=rfl),?_⟩;simp only [go_sem,h12])));apply hK;clear hK K))
    by_cases hw:x.clues.any (wrongC n x)=true
    ·simp only [go_sem,hw]
     refine z8 rfl ?_
     repeat (first|refine nx ?_|(refine z3 fun K hK=>?_;simp only [go_sem];apply hK;clear hK K))
     have e:openX n x=81:=by simp only [openX,hok,hb,h12,hw,Bool.false_or];rfl
     rw [openD,e]
     simp only [go_sem]
    ·have hw:x.clues.any (wrongC n x)=false:=by simpa using hw
     simp only [go_sem,hw]
     refine z5 rfl ?_
     repeat (first|refine nx ?_|(refine z3 fun K hK=>?_;simp only [go_sem];apply hK;clear hK K))
     have e:openX n x=0:=by simp only [openX,hok,hb,h12,hw,Bool.false_or];rfl
     rw [openD,e]
     simp only [go_sem,huntC,timesD,mapD]
 ·have e:openX n x=checkPartyF n x.party:=by simp [openX,hok]
  rw [travC,if_neg hok] at h44
  rw [openD,e,if_neg hok]
  have hne:(checkPartyF n x.party != 0)=true:=by simpa using hok
  repeat (first|refine nx ?_|(refine z3 fun K hK=>?_;simp only [go_sem];(repeat (first|(refine⟨_,.lent (hf:=h44) (hd:=rfl) (hr:=rfl),?_⟩;simp only [go_sem])|(refine⟨_,.given (hf:=h44) (hd:=rfl) (ha:=rfl),?_⟩;simp only [go_sem])));apply hK;clear hK K))
  refine z4 rfl (fun _=>?_) (fun hc=>by rw [hne] at hc;cases hc)
  repeat (first|refine nx ?_|(refine z3 fun K hK=>?_;simp only [go_sem];apply hK;clear hK K))
  simp only [go_sem]
end Go.Ab
namespace Go.Ab
open Go.RowKit
inductive Sh where
 | int (k:IntKind)
 | bool
 | sl (row:List Sh)
mutual
def Sh.fits (N:Nat):Sh→DV→Prop
 | .int k,d=>∃ n,d=.int k n∧(Lit.int k n).wf=true
 | .bool,d=>∃ b,d=.bool b
 | .sl r,d=>∃ rows,d=.sl rows∧rows.length≤N∧∀ row ∈ rows,Sh.fitsL N r row
def Sh.fitsL (N:Nat):List Sh→List DV→Prop
 | [],ds=>ds=[]
 | s::ss,ds=>∃ d r,ds=d::r∧Sh.fits N s d∧Sh.fitsL N ss r
end
theorem Sh.fitsL_len {N:Nat}:∀ {ss:List Sh} {ds:List DV},Sh.fitsL N ss ds→ds.length=ss.length
 | [],_,h=>by simp only [Sh.fitsL] at h;subst h;rfl
 | s::ss,ds,h=>by
  simp only [Sh.fitsL] at h
  obtain⟨d,r,rfl,_,h⟩:=h
  simp [Sh.fitsL_len h]
theorem Sh.fitsL_append {N:Nat}:∀ {ss ts:List Sh} {ds es:List DV},Sh.fitsL N ss ds→Sh.fitsL N ts es→Sh.fitsL N (ss++ts) (ds++es)
 | [],_,_,_,h,k=>by simp only [Sh.fitsL] at h;subst h;simpa using k
 | s::ss,ts,ds,es,h,k=>by
  simp only [Sh.fitsL] at h
  obtain⟨d,r,rfl,hd,h⟩:=h
  simp only [List.cons_append,Sh.fitsL]
  exact⟨d,r++es,rfl,hd,Sh.fitsL_append h k⟩
def shapesF (P:Program) (g:TypeId→Option (List Sh)):List Field→Nat→Option (List Sh)
 | [],_=>some []
 | f::fs,o=>if f.offset=o then (g f.type).bind fun r=>if P.cellsOf f.type=r.length then (shapesF P g fs (o + r.length)).map fun s=>r++s else none else none
def shapes (P:Program):Nat→TypeId→Option (List Sh)
 | 0,_=>none
 | n + 1,t=>match P.underlying t with
  | some .bool=>some [.bool]
  | some (.int k)=>some [.int k]
  | some (.slice e)=>(shapes P n e).bind fun r=>if P.cellsOf e=r.length∧0<r.length then some [.sl r] else none
  | some (.struct fs)=>(shapesF P (shapes P n) fs.toList 0).bind fun r=>if P.cellsOf t=r.length then some r else none
  | _=>none
structure BulkOk {H:Type} (b:DataW H→Nat):Prop where
 slice:∀ elems spare,elems.length≤b (.slice elems spare)
 elem:∀ elems spare,∀ d ∈ elems,b d≤b (.slice elems spare)
 part:∀ parts,∀ d ∈ parts,b d≤b (.agg parts)
def Reads (w:World) (ds:List DV) (cs:List Value):Prop :=
 ∀ (i:Nat) d v,ds[i]?=some d→cs[i]?=some v→v.oneCell'=true∧DRel w (fun _=>False) d v
section
variable {H:Type} {enc:TypeId × Value→H} {P:Program} {w:World} {sp:Nat→Bool} {held:Bool}
theorem z1289 {b:DataW H→Nat} {N:Nat} {g:TypeId→Option (List Sh)} {m:Nat} {cs:List Value}
  (hg:∀ (t:TypeId) sh,g t=some sh→∀ cs d ps,DataW.trod enc P w 0 sp held m t cs=some (d,ps)→b d≤N→cs.length=sh.length∧∃ ds,Sh.fitsL N sh ds∧Reads w ds cs) :
  ∀ (fs:List Field) (xs:List (DataW H × List MemPlace)) (o:Nat) (sh:List Sh),shapesF P g fs o=some sh→xs.length=fs.length →
   (∀ (i:Nat) (f:Field),fs[i]?=some f→DataW.trod enc P w 0 sp held m f.type ((cs.drop f.offset).take (P.cellsOf f.type))=xs[i]?)→(∀ x ∈ xs,b x.1≤N) →
   ∃ ds,Sh.fitsL N sh ds∧Reads w ds (cs.drop o)
 | [],xs,o,sh,h,hl,_,_=>by
  simp only [shapesF,Option.some.injEq] at h
  subst h
  exact⟨[],by simp [Sh.fitsL],fun i d v h=>by simp at h⟩
 | f::fs,xs,o,sh,h,hl,hx,hb=>by
  simp only [shapesF] at h
  split at h
  case isFalse=>cases h
  case isTrue ho =>
  obtain⟨r,hr,h⟩:=Option.bind_eq_some_iff.1 h
  split at h
  case isFalse=>cases h
  case isTrue hc =>
  obtain⟨s,hs,rfl⟩:=Option.map_eq_some_iff.1 h
  cases xs with
  | nil=>simp at hl
  | cons x xs =>
   have h0:=hx 0 f rfl
   rw [List.getElem?_cons_zero] at h0
   obtain⟨hlen,ds,hf,hd⟩:=hg _ _ hr _ x.1 x.2 h0 (hb x (by simp))
   obtain⟨es,he,hd'⟩:=z1289 hg fs xs (o + r.length) s hs (by simpa using hl) (fun i f' hf'=>by simpa using hx (i + 1) f' (by simpa using hf')) (fun y hy=>hb y (by simp [hy]))
   have hdl:=Sh.fitsL_len hf
   refine⟨ds++es,Sh.fitsL_append hf he,fun i d v h1 h2=>?_⟩
   rw [List.getElem?_drop] at h2
   rcases Nat.lt_or_ge i ds.length with hi | hi
   ·rw [List.getElem?_append_left hi] at h1
    refine hd i d v h1 ?_
    rw [List.getElem?_take,List.getElem?_drop,ho,if_pos (by omega),h2]
   ·rw [List.getElem?_append_right hi] at h1
    refine hd' (i - ds.length) d v h1 ?_
    rw [List.getElem?_drop]
    rw [show o + r.length + (i - ds.length)=o + i from by omega,h2]
theorem z1146 {w:World} {a:Addr} {n:Nat} {cs:List Value} (h:w.cells? 0 a n=some cs):cs.length=n∧∀ j,j<n→w.cell? (a.add j)=cs[j]?:=by
 simp only [World.cells?,Nat.zero_le,if_true] at h
 exact⟨by simpa using mapM_some_length h,fun j hj=>mapM_some_get h j j (by simp [hj])⟩
theorem z1147 {w:World} {a:Addr} {v:Value} (h:w.cell? a=some v):a.spot=none:=by
 unfold World.cell? at h
 split at h
 ·split at h
  ·cases h
  ·cases hs:a.spot <;> simp_all
 ·cases h
theorem z230 {b:DataW H→Nat} (hb:BulkOk b) (N:Nat):∀ (n:Nat) (t:TypeId) (sh:List Sh),shapes P n t=some sh→∀ fuel cs d ps,DataW.trod enc P w 0 sp held fuel t cs=some (d,ps)→b d≤N →
  cs.length=sh.length∧∃ ds,Sh.fitsL N sh ds∧Reads w ds cs
 | 0,_,_,h=>by simp [shapes] at h
 | n + 1,t,sh,h=>by
  intro fuel cs d ps hd hN
  unfold shapes at h
  split at h
  case h_1 ht =>
   cases h
   obtain⟨v,rfl,_⟩:=DataW.trod_bool ht hd
   refine⟨rfl,[.bool v],?_,?_⟩
   ·simp [Sh.fitsL,Sh.fits]
   ·intro i d' v' h1 h2
    cases i with
    | zero=>simp only [List.getElem?_cons_zero,Option.some.injEq] at h1 h2;subst h1;subst h2;exact⟨rfl,.bool _⟩
    | succ i=>simp at h1
  case h_2 k ht =>
   cases h
   obtain⟨v,rfl,_,hw⟩:=DataW.trod_int ht hd
   refine⟨rfl,[.int k v],?_,?_⟩
   ·simpa [Sh.fitsL,Sh.fits] using hw
   ·intro i d' v' h1 h2
    cases i with
    | zero=>simp only [List.getElem?_cons_zero,Option.some.injEq] at h1 h2;subst h1;subst h2;exact⟨rfl,.int _ _⟩
    | succ i=>simp at h1
  case h_3 e ht =>
   obtain⟨r,hr,h⟩:=Option.bind_eq_some_iff.1 h
   split at h
   case isFalse=>cases h
   case isTrue hc =>
   obtain⟨hc,hp⟩:=hc
   cases h
   rcases DataW.trod_slice ht hd with ⟨rfl,_⟩ | ⟨a,len,cap,elems,rest,m,rfl,rfl,hx,_,hcap,_,hl,hel,_⟩
   ·refine⟨rfl,[.sl []],?_,?_⟩
    ·simp [Sh.fitsL,Sh.fits]
    ·intro i d' v' h1 h2
     cases i with
     | zero=>simp only [List.getElem?_cons_zero,Option.some.injEq] at h1 h2;subst h1;subst h2;exact⟨rfl,.slNil⟩
     | succ i=>simp at h1
   ·obtain rfl:d=.slice (elems.map (·.1)) (rest.map (·.1)):=congrArg Prod.fst hx
    have hrow:∀ i:Nat,∃ ds:List DV,i<len→Sh.fitsL N r ds∧∀ j d,ds[j]?=some d→∃ v,w.cell? (a.add (i * r.length) |>.add j)=some v∧v.oneCell'=true∧DRel w (fun _=>False) d v:=by
     intro i
     by_cases hi:i<len
     ·have h1:=hel i hi
      rw [List.getElem?_eq_getElem (by omega)] at h1
      obtain⟨cs',hcs,htr⟩:=Option.bind_eq_some_iff.1 h1
      have hin:(elems[i]'(by omega)).1 ∈ elems.map (·.1):=List.mem_map.2 ⟨_,List.getElem_mem _,rfl⟩
      obtain⟨hlen,ds,hf,hds⟩:=z230 hb N n e r hr m cs' (elems[i]'(by omega)).1 (elems[i]'(by omega)).2 htr (Nat.le_trans (hb.elem _ _ _ hin) hN)
      refine⟨ds,fun _=>⟨hf,fun j d hj=>?_⟩⟩
      have hjl:j<ds.length:=by
       rcases Nat.lt_or_ge j ds.length with h | h
       ·exact h
       ·rw [List.getElem?_eq_none h] at hj;cases hj
      rw [Sh.fitsL_len hf] at hjl
      have hcell:=(z1146 hcs).2 j (by omega)
      rw [hc] at hcell
      have hv:cs'[j]?=some (cs'[j]'(by omega)):=List.getElem?_eq_getElem _
      rw [hv] at hcell
      exact⟨_,hcell,hds j d _ hj hv⟩
     ·exact⟨[],fun h=>absurd h hi⟩
    have hcho:=Classical.axiomOfChoice hrow
    obtain⟨F,hF⟩:=hcho
    have hrl:((List.range len).map F).length=len:=by simp
    refine⟨rfl,[.sl ((List.range len).map F)],?_,?_⟩
    ·simp only [Sh.fitsL,Sh.fits]
     refine⟨_,_,rfl,⟨_,rfl,?_,?_⟩,rfl⟩
     ·rw [hrl]
      have:=hb.slice (elems.map (·.1)) (rest.map (·.1))
      simp only [List.length_map] at this
      omega
     ·intro row hrow
      obtain⟨i,hi,rfl⟩:=List.mem_map.1 hrow
      exact (hF i (by simpa using hi)).1
    ·intro i d' v' h1 h2
     cases i with
     | succ i=>simp at h1
     | zero =>
      simp only [List.getElem?_cons_zero,Option.some.injEq] at h1 h2
      subst h1;subst h2
      refine⟨rfl,?_⟩
      cases hlen:len with
      | zero=>exact .slEmpty _ _
      | succ l =>
       have hspot:a.spot=none:=by
        have h0:=hF 0 (by omega)
        have hfl:=Sh.fitsL_len h0.1
        obtain⟨v,hv,_⟩:=h0.2 0 ((F 0)[0]'(by omega)) (List.getElem?_eq_getElem _)
        simp only [Nat.zero_mul,Addr.add,if_true] at hv
        exact z1147 hv
       obtain⟨blk,off,spot⟩:=a
       simp only at hspot
       subst hspot
       have hadd:∀ i j,(Addr.add (Addr.add ⟨blk,off,none⟩ (i * r.length)) j)=⟨blk,off + i * r.length + j,none⟩:=by
        intro i j
        unfold Addr.add
        by_cases h1:i * r.length=0 <;> by_cases h2:j=0 <;> simp [h1,h2]
       have hall:∀ (i:Nat) (r':List DV) (j:Nat) (d:DV),((List.range len).map F)[i]?=some r'→r'[j]?=some d→∃ v,w.cell? ⟨blk,off + i * r.length + j,none⟩=some v∧v.oneCell'=true∧DRel w (fun _=>False) d v:=by
        intro i r' j d h1 h2
        rw [List.getElem?_map] at h1
        obtain⟨i',hi',rfl⟩:=Option.map_eq_some_iff.1 h1
        obtain⟨hil,rfl⟩:=List.getElem?_eq_some_iff.1 hi'
        simp only [List.length_range] at hil
        simp only [List.getElem_range] at h2
        obtain⟨v,hv,h3,h4⟩:=(hF i hil).2 j d h2
        rw [hadd] at hv
        exact⟨v,hv,h3,h4⟩
       have hfin:=DRel.sl (w:=w) (own:=fun _=>False) ((List.range len).map F) blk off r.length cap (fun i j=>(w.cell? ⟨blk,off + i * r.length + j,none⟩).getD .nilFunc) (by rw [hrl];exact hcap)
        (by
         intro row hrow
         obtain⟨i,hi,rfl⟩:=List.mem_map.1 hrow
         exact Sh.fitsL_len (hF i (by simpa using hi)).1)
        (by
         intro i r' j d h1 h2
         obtain⟨v,hv,h3,_⟩:=hall i r' j d h1 h2
         rw [hv]
         exact⟨fun h=>h,rfl,h3⟩)
        (by
         intro i r' j d h1 h2
         obtain⟨v,hv,_,h4⟩:=hall i r' j d h1 h2
         simp only [hv,Option.getD_some]
         exact h4)
       rw [hrl] at hfin
       rw [hlen] at hfin
       exact hfin
  case h_4 fs ht =>
   obtain⟨r,hr,h⟩:=Option.bind_eq_some_iff.1 h
   split at h
   case isFalse=>cases h
   case isTrue hc =>
   cases h
   obtain⟨xs,m,rfl,hx,hl,hxl,hi⟩:=DataW.trod_struct ht hd
   obtain rfl:d=.agg (xs.map (·.1)):=congrArg Prod.fst hx
   obtain⟨ds,hf,hds⟩:=z1289 (fun t sh h cs d ps hd hN=>z230 hb N n t sh h m cs d ps hd hN) fs.toList xs 0 sh hr (by simpa using hxl) (fun i f hf=>hi i f (by simpa using hf))
    (fun x hx=>Nat.le_trans (hb.part _ _ (List.mem_map.2 ⟨x,hx,rfl⟩)) hN)
   exact⟨by omega,ds,hf,by simpa using hds⟩
  case h_5=>cases h
end
end Go.Ab
/- The z1381 from a walked contract to a statement's contract,for arguments of any number and of the types that the statements take;where what is read is of bulk at most the bound. -/
namespace Go.Ab
open Go.RowKit Go.Proofs Go.ChangeShapes Go.WideShapes Go.Proofs.YtfkbbaagifpjpaaGreatDoor
set_option linter.unusedVariables false
set_option maxRecDepth 100000
section
variable {H:Type} {enc:TypeId × Value→H} {P:Program}
theorem z556 {f:Func} {s:ChangeSpec} {apart fresh handsOn again:Bool} {W W':World} {args:Array Value} {v:Value} {ds gs:List (DataW H)} {before pa pv:List MemPlace}
  (hW:DataW.Whole enc P f.params.toList s.vars apart W args.toList ds gs before)
  (hres:∀ (b:Nat) (sp:Nat→Bool) (hd:Bool),DataW.TrodAll enc P W' b sp hd f.resultTypes.toList (v.resultList f.resultTypes.size) (s.fn H (ds++gs)).results [])
  (hargs:∀ sp:Nat→Bool,(∀ p ∈ before,sp p.block=true)→DataW.TrodAll enc P W' 0 sp true f.params.toList args.toList (s.fn H (ds++gs)).args pa)
  (hvars:∀ sp:Nat→Bool,(∀ p ∈ before,sp p.block=true)→DataW.TrodVars enc P W' sp s.vars (s.fn H (ds++gs)).vars pv)
  (hps:before=pa++pv) (hb:Below W.heap.size W W')
  (hok:∀ (j:Nat) (t:TypeId) (r:Value),f.resultTypes[j]?=some t→(v.resultList f.resultTypes.size)[j]?=some r→Value.okWide P W' .any 0 t r) :
  s.post enc P f apart fresh handsOn again W args v W':=by
 have hlt:=hW.lt
 have hold:∀ p ∈ before,(fun b=>decide (b<W.heap.size)) p.block=true:=fun p hp=>by simpa using hlt p hp
 refine⟨ds,gs,before,[],pa,pv,hW,hres _ _ _,hargs _ hold,hvars _ hold,World.keptBut_mono (fun p hp=>⟨hp,?_⟩) (hb.frame (· ∈ before)),fun _=>?_⟩
 ·rw [hps,List.mem_append] at hp
  exact Or.inr hp
 ·obtain⟨_,_,_,_,_,hz,hn⟩:=hW
  refine⟨hok,_,_,([]++pa)++pv,⟨[]++pa,pv,trodAll_append (hargs _ (fun _ _=>rfl)) (hres _ _ _),hvars _ (fun _ _=>rfl),rfl,?_,?_⟩,?_⟩
  ·intro b off hp
   have hp':MemPlace.cell b off ∈ before:=by rw [hps];simpa using hp
   rw [hb.frozen (p:=⟨b,off,none⟩) (hlt _ hp')]
   exact hz b off hp'
  ·intro ha
   have:=hn ha
   rw [hps] at this
   simpa using this
  ·intro p hp _
   rw [hps]
   simpa using hp
end
theorem z353 {α:Type} {row:α→List DV} {Q:α→Prop}:∀ {rows:List (List DV)},(∀ r ∈ rows,∃ a,r=row a∧Q a)→∃ l:List α,rows=l.map row∧∀ a ∈ l,Q a
 | [],_=>⟨[],rfl,fun _ h=>by cases h⟩
 | r::rs,h=>by
  obtain⟨a,rfl,ha⟩:=h r (by simp)
  obtain⟨l,rfl,hl⟩:=z353 (rows:=rs) (fun r hr=>h r (by simp [hr]))
  exact⟨a::l,rfl,fun b hb=>by rcases List.mem_cons.1 hb with rfl | hb;exact ha;exact hl b hb⟩
def iS:Sh:=.int .i64
def spanS:List Sh:=[iS,iS]
def pathS:List Sh:=[iS,iS,iS,iS,iS,iS,iS,.sl spanS]
def netS:List Sh:=[iS,.sl pathS]
def partyS:List Sh:=[iS,iS,iS,iS]
theorem z1301 {N:Nat} {r:List DV} (h:Sh.fitsL N [iS] r):∃ s:Int,r=[.i s]∧True:=by
 simp only [iS,Sh.fitsL,Sh.fits] at h
 obtain⟨_,_,rfl,⟨a,rfl,_⟩,rfl⟩:=h
 exact⟨a,rfl,trivial⟩
theorem z1249 {N:Nat} {r:List DV} (h:Sh.fitsL N spanS r):∃ s:Span,r=s.row∧True:=by
 simp only [spanS,iS,Sh.fitsL,Sh.fits] at h
 obtain⟨_,_,rfl,⟨a,rfl,_⟩,_,_,rfl,⟨b,rfl,_⟩,rfl⟩:=h
 exact⟨⟨a,b⟩,rfl,trivial⟩
theorem z1252 {N:Nat} {r:List DV} (h:Sh.fitsL N pathS r):∃ x:Path,r=x.row∧x.opens.length≤N:=by
 simp only [pathS,iS,Sh.fitsL,Sh.fits] at h
 obtain⟨_,_,rfl,⟨a,rfl,_⟩,_,_,rfl,⟨b,rfl,_⟩,_,_,rfl,⟨c,rfl,_⟩,_,_,rfl,⟨d,rfl,_⟩,_,_,rfl,⟨e,rfl,_⟩,_,_,rfl,⟨f,rfl,_⟩,_,_,rfl,⟨g,rfl,_⟩,_,_,rfl,⟨rows,rfl,hl,hr⟩,rfl⟩:=h
 obtain⟨l,rfl,_⟩:=z353 (fun r h=>z1249 (hr r h))
 exact⟨⟨a,b,c,⟨d,e⟩,⟨f,g⟩,l⟩,rfl,by simpa using hl⟩
theorem z1295 {N:Nat} (hN:N<2 ^ 30) {r:List DV} (h:Sh.fitsL N netS r):∃ n:Net,r=n.cells∧n.Small:=by
 simp only [netS,iS,Sh.fitsL,Sh.fits] at h
 obtain⟨_,_,rfl,⟨a,rfl,_⟩,_,_,rfl,⟨rows,rfl,hl,hr⟩,rfl⟩:=h
 obtain⟨l,rfl,hq⟩:=z353 (fun r h=>z1252 (hr r h))
 refine⟨⟨a,l⟩,rfl,⟨?_,fun x hx=>?_⟩⟩
 ·have:l.length≤N:=by simpa using hl
  show l.length<2 ^ 30
  omega
 ·have:=hq x hx
  omega
theorem z1339:shapes Tryz.prog 20 24=some netS:=by kernel_rfl
theorem z1341:shapes Tryz.prog 20 3=some [iS]:=by kernel_rfl
theorem z575 {H:Type}:∀ {l:List (DataW H)} {d:DataW H},d ∈ l→Rows.uptoBulk d≤Rows.uptoBulkAll l
 | x::r,d,h=>by
  simp only [Rows.uptoBulkAll]
  rcases List.mem_cons.1 h with rfl | h
  ·omega
  ·have:=z575 h
   omega
theorem z1236 {H:Type} (d:DataW H):1≤Rows.uptoBulk d:=by
 cases d with
 | lit l=>cases l <;> simp [Rows.uptoBulk]
 | _=>simp [Rows.uptoBulk]
theorem z946 {H:Type}:∀ (l:List (DataW H)),l.length≤Rows.uptoBulkAll l
 | []=>by simp
 | x::r=>by
  have h1:=z1236 x
  have h2:=z946 r
  simp only [Rows.uptoBulkAll,List.length_cons]
  omega
theorem z1243 {H:Type}:BulkOk (Rows.uptoBulk (H:=H)) where
 slice:=fun elems spare=>by
  have:=z946 elems
  simp only [Rows.uptoBulk]
  omega
 elem:=fun elems spare d hd=>by
  have:=z575 hd
  simp only [Rows.uptoBulk]
  omega
 part:=fun parts d hd=>by
  have:=z575 hd
  simp only [Rows.uptoBulk]
  omega
structure Rd (t:TypeId) (C:DV→Prop):Prop where
 rec':Tryz.prog.readableRec t=true
 lt:t<Tryz.prog.types.size
 read:∀ (H:Type) (enc:TypeId × Value→H) (w:World) (base:Nat) (v:Value) (d:DataW H) (ps:List MemPlace),Value.okWide Tryz.prog w .any base t v→DataW.Trod enc Tryz.prog w 0 (fun _=>true) true t v d ps→Rows.uptoBulk d≤1048576→∃ x,C x∧DRel w (fun _=>False) x v
theorem z952 {H:Type} {enc:TypeId × Value→H} {w:World} {t:TypeId} {sh:List Sh} (hs:shapes Tryz.prog 20 t=some sh) (h2:2≤sh.length) {v:Value} {d:DataW H} {ps:List MemPlace}
  (h:DataW.Trod enc Tryz.prog w 0 (fun _=>true) true t v d ps) (hd:Rows.uptoBulk d≤1048576) :
  ∃ ds,Sh.fitsL 1048576 sh ds∧DRel w (fun _=>False) (.agg ds) v:=by
 obtain⟨fuel,h⟩:=h
 obtain⟨hl,ds,hf,hr⟩:=z230 z1243 1048576 20 t sh hs fuel _ _ _ h hd
 have hdl:=Sh.fitsL_len hf
 refine⟨ds,hf,?_⟩
 cases v with
 | agg cs =>
  simp only [Value.cells] at hl hr
  exact .agg _ _ (by simpa [hdl] using hl.symm) fun i d v h1 h2=>(hr i d v h1 (by simpa using h2)).2
 | _=>simp [Value.cells] at hl;omega
theorem z1197 {H:Type} {enc:TypeId × Value→H} {w:World} {t:TypeId} {s:Sh} (hs:shapes Tryz.prog 20 t=some [s]) {v:Value} {d:DataW H} {ps:List MemPlace}
  (hv:v.cells.toList=[v]) (h:DataW.Trod enc Tryz.prog w 0 (fun _=>true) true t v d ps) (hd:Rows.uptoBulk d≤1048576) :
  ∃ x,Sh.fits 1048576 s x∧DRel w (fun _=>False) x v:=by
 obtain⟨fuel,h⟩:=h
 obtain⟨hl,ds,hf,hr⟩:=z230 z1243 1048576 20 t _ hs fuel _ _ _ h hd
 simp only [Sh.fitsL] at hf
 obtain⟨x,_,rfl,hx,rfl⟩:=hf
 exact⟨x,hx,(hr 0 x v rfl (by rw [hv];rfl)).2⟩
theorem z1335:Rd 24 (fun x=>∃ n:Net,x=.agg n.cells∧n.Small) :=
 ⟨by kernel_rfl,of_decide_eq_true (by kernel_rfl),fun H enc w base v d ps hok h hd=>by
  obtain⟨e0,hf0,r0⟩:=z952 z1339 (by decide) h hd
  obtain⟨n,rfl,hsm⟩:=z1295 (by decide) hf0
  exact⟨_,⟨n,rfl,hsm⟩,r0⟩⟩
theorem z1336:Rd 3 (fun x=>∃ n:Int,x=.i n) :=
 ⟨by kernel_rfl,of_decide_eq_true (by kernel_rfl),fun H enc w base v d ps hok h hd=>by
  obtain⟨n,rfl⟩:=okWide_int Tryz.underlying3 hok
  obtain⟨x,hx,hr⟩:=z1197 z1341 rfl h hd
  simp only [iS,Sh.fits] at hx
  obtain⟨m,rfl,_⟩:=hx
  exact⟨_,⟨m,rfl⟩,hr⟩⟩
abbrev aN:TypeId × (DV→Prop):=(24,fun x=>∃ n:Net,x=.agg n.cells∧n.Small)
abbrev aP:TypeId × (DV→Prop):=(28,fun x=>∃ p:Party,x=.agg p.cells)
abbrev aI:TypeId × (DV→Prop):=(3,fun x=>∃ n:Int,x=.i n)
def tabLaid : List (String × DataW Unit) := [("math/bits.deBruijn32tab", Rows.laid_math_bits_deBruijn32tab), ("math/bits.deBruijn64tab", Rows.laid_math_bits_deBruijn64tab)]
theorem gTab : Tryz.prog.globalNamed "math/bits.deBruijn64tab" = some 1 := by kernel_rfl
theorem tTab:(Tryz.prog.globals[1]?).map (·.type)=some 178:=by kernel_rfl
def tabL:List Int:=[0,1,56,2,57,49,28,3,61,58,42,50,38,29,17,4,62,47,59,36,45,43,51,22,53,39,33,30,24,18,12,5,63,55,48,27,60,41,37,16,46,35,44,21,52,32,23,11,54,26,40,15,34,20,31,10,25,14,19,9,13,8,7,6]
theorem z1083:(Rows.laid_math_bits_deBruijn64tab:DataW Unit)=.agg (tabL.map fun i=>.lit (.int .u8 i)):=rfl
theorem z704 {α β:Type} (g:α→Option β):∀ (l:List α) (r:List β),l.mapM g=some r→r.length=l.length∧∀ (i:Nat) a b,l[i]?=some a→r[i]?=some b→g a=some b
 | [],r,h=>by
  simp at h;subst h
  exact⟨rfl,fun i a b h=>by simp at h⟩
 | x::l,r,h=>by
  simp only [List.mapM_cons,Option.bind_eq_bind,Option.pure_def,Option.bind_eq_some_iff] at h
  obtain⟨b,hb,rs,hr,h⟩:=h
  cases h
  obtain⟨h1,h2⟩:=z704 g l rs hr
  refine⟨by simp [h1],fun i a b' ha hb'=>?_⟩
  cases i with
  | zero=>simp at ha hb';subst ha;subst hb';exact hb
  | succ i=>exact h2 i a b' (by simpa using ha) (by simpa using hb')
theorem z962 {H:Type} {enc:TypeId × Value→H} {P:Program} {w:World} {base:Nat} {spare:Nat→Bool} {held:Bool} {t e:TypeId} {n:Nat} (hu:P.underlying t=some (.array n e)) (he:P.underlying e=some (.int .u8)) (hc:P.cellsOf e=1) {fuel:Nat} {cs:List Value} {L:List Int} {p:List MemPlace}
  (h:DataW.trod enc P w base spare held fuel t cs=some (.agg (L.map fun i=>.lit (.int .u8 i)),p)):∀ (i:Nat) (v:Int),L[i]?=some v→cs[i]?=some (.int .u8 v):=by
 cases fuel with
 | zero=>simp [DataW.trod] at h
 | succ fuel =>
  unfold DataW.trod at h
  rw [hu] at h
  simp only [hc,Nat.mul_one] at h
  split at h
  ·obtain⟨xs,hx,hxe⟩:=Option.map_eq_some_iff.1 h
   obtain⟨h1,h2⟩:=z704 _ _ _ hx
   simp only [Prod.mk.injEq,DataW.agg.injEq] at hxe
   intro i v hv
   have hLx:(xs.map (·.1))[i]?=some (.lit (.int .u8 v)):=by rw [hxe.1,List.getElem?_map,hv];rfl
   rw [List.getElem?_map,Option.map_eq_some_iff] at hLx
   obtain⟨y,hy,hy1⟩:=hLx
   have hil:i<n:=by
    have:=(List.getElem?_eq_some_iff.1 hy).1
    rw [h1,List.length_range] at this
    exact this
   have h3:=h2 i i y (by simp [hil]) hy
   obtain⟨m,e1,e2,_⟩:=DataW.trod_int he h3
   rw [e2] at hy1
   simp only [DataW.lit.injEq,Lit.int.injEq,true_and] at hy1
   subst hy1
   have:=congrArg (fun l=>l[0]?) e1
   simpa using this
  ·cases h
theorem z1304 {W:World} (h:laidMetH Tryz.prog tabLaid W):Hid Tryz.prog W (fun _=>False):=by
 rw [MakeChecks.laidMetH_plain _ _ _ (by kernel_rfl)] at h
 obtain⟨ps,⟨_,_,_,_,_,_,_,_,_,_,⟨g0,t0,cs0,zf0,p0,q0,hg0,ht0,hv0,hd0,_,_⟩,_⟩,_,_⟩:=h
 obtain rfl:=Option.some.inj (gTab.symm.trans hg0)
 obtain rfl:=Option.some.inj (tTab.symm.trans ht0)
 rw [z1083] at hd0
 have hcell:=z962 Tryz.underlying178 Tryz.underlying5 (by kernel_rfl) hd0
 have hvar:=fun i=>World.var?_cell hg0 hv0 i
 have hsz:Tryz.prog.globals.size=2:=by kernel_rfl
 intro g d hgd
 unfold hidOf at hgd
 rw [hsz] at hgd
 match g,hgd with
 | 0,hgd=>cases hgd
 | 1,hgd =>
  cases hgd
  refine .ptr (tabL.map (DV.int .u8)) 0 1 0 (fun j=>.int .u8 (tabL.getD j 0)) (fun j d hj=>⟨id,?_,rfl⟩) (fun j d hj=>?_)
  ·rw [List.getElem?_map,Option.map_eq_some_iff] at hj
   obtain⟨v,hv,rfl⟩:=hj
   rw [Nat.zero_add,hvar j,← Array.getElem?_toList,hcell j v hv,List.getD_eq_getElem?_getD,hv]
   rfl
  ·rw [List.getElem?_map,Option.map_eq_some_iff] at hj
   obtain⟨v,hv,rfl⟩:=hj
   rw [List.getD_eq_getElem?_getD,hv]
   exact .int ..
 | _ + 2,hgd=>cases hgd
def AllC:List (TypeId × (DV→Prop))→List DV→Prop
 | [],[]=>True
 | c::cs,x::xs=>c.2 x∧AllC cs xs
 | _,_=>False
section
variable {H:Type} {enc:TypeId × Value→H} {W:World}
theorem z925 {base:Nat}:∀ (L:List (TypeId × (DV→Prop))),(∀ c ∈ L,Rd c.1 c.2)→∀ (vs:List Value) (ds:List (DataW H)) (ps:List MemPlace),
  (∀ (j:Nat) t v,(L.map (·.1))[j]?=some t→vs[j]?=some v→Value.okWide Tryz.prog W .any base t v) →
  DataW.TrodAll enc Tryz.prog W 0 (fun _=>true) true (L.map (·.1)) vs ds ps→Rows.uptoBulkAll ds≤1048576 →
  vs.length=L.length∧ds.length=L.length∧∃ xs,AllC L xs∧xs.length=L.length∧∀ (i:Nat) x v,xs[i]?=some x→vs[i]?=some v→DRel W (fun _=>False) x v
 | [],_,vs,ds,ps,_,h,_=>by
  obtain⟨rfl,rfl,rfl⟩:=trodAll_nil h
  exact⟨rfl,rfl,[],trivial,rfl,fun i x v h=>by simp at h⟩
 | c::L,hc,vs,ds,ps,hval,h,hb=>by
  obtain⟨v,vs',d,ds',p,q,rfl,rfl,rfl,hd,hrest⟩:=trodAll_cons h
  simp only [Rows.uptoBulkAll] at hb
  obtain⟨x,hx,hr⟩:=(hc c (by simp)).read H enc W base v d p (hval 0 _ v (by simp) (by simp)) hd (by omega)
  obtain⟨h1,h2,xs,h3,h4,h5⟩:=z925 L (fun c h=>hc c (by simp [h])) vs' ds' q (fun j t v h1 h2=>hval (j + 1) t v (by simpa using h1) (by simpa using h2)) hrest (by omega)
  refine⟨by simp [h1],by simp [h2],x::xs,⟨hx,h3⟩,by simp [h4],fun i y w hy hw=>?_⟩
  cases i with
  | zero =>
   simp at hy hw
   subst hy
   subst hw
   exact hr
  | succ i=>exact h5 i y w (by simpa using hy) (by simpa using hw)
theorem z922 {W':World} {sp:Nat→Bool}:∀ (L:List (TypeId × (DV→Prop))),(∀ c ∈ L,Rd c.1 c.2)→∀ (vs:List Value) (ds:List (DataW H)) (ps:List MemPlace),
  DataW.TrodAll enc Tryz.prog W 0 (fun _=>true) true (L.map (·.1)) vs ds ps→(∀ y ∈ ps,y.block<W.heap.size)→Below W.heap.size W W'→(∀ y ∈ ps,sp y.block=true) →
  DataW.TrodAll enc Tryz.prog W' 0 sp true (L.map (·.1)) vs ds ps
 | [],_,vs,ds,ps,h,_,_,_=>by
  obtain⟨rfl,rfl,rfl⟩:=trodAll_nil h
  exact trodAll_mk0
 | c::L,hc,vs,ds,ps,h,hlt,hb,hsp=>by
  obtain⟨v,vs',d,ds',p,q,rfl,rfl,rfl,hd,hrest⟩:=trodAll_cons h
  have hrd:=hc c (by simp)
  exact⟨p,q,WideElems.Trod_stays (by kernel_rfl) hrd.rec' hrd.lt hd (fun y hy=>hb.same (hlt y (by simp [hy]))) (fun y hy=>hsp y (by simp [hy])),
   z922 L (fun c h=>hc c (by simp [h])) vs' ds' q hrest (fun y hy=>hlt y (by simp [hy])) hb (fun y hy=>hsp y (by simp [hy])),rfl⟩
end
theorem z1381 {f:FuncId} {fn:Func} (L:List (TypeId × (DV→Prop))) (hL:∀ c ∈ L,Rd c.1 c.2) (hf:∀ xs,AllC L xs→Fn Tryz.prog f xs (.bool true)) (hfn:fn.params=(L.map (·.1)).toArray) (hr:fn.resultTypes=#[4])
  (s:ChangeSpec) (hv:s.vars=[]) (hs:∀ (H:Type) (ds:List (DataW H)),ds.length=L.length→s.fn H ds={ results:=[.lit (.bool true)],args:=ds })
  {H:Type} {enc:TypeId × Value→H} {W:World} {args:Array Value} {ds gs:List (DataW H)} {before:List MemPlace}
  {base:Nat} (hval:∀ (j:Nat) t v,fn.params[j]?=some t→args[j]?=some v→Value.okWide Tryz.prog W .any base t v)
  (hW:DataW.Whole enc Tryz.prog fn.params.toList s.vars false W args.toList ds gs before) (hk:Rows.uptoSmall H (ds++gs)=true) (hX:laidMetH Tryz.prog tabLaid W) :
  Calls Tryz.prog f args W fun e W'=>∃ v,e=.returned v∧s.post enc Tryz.prog fn false true false false W args v W':=by
 have hW':=hW
 obtain⟨p,q,hA,hV,rfl,hfz,hnd⟩:=hW
 rw [hfn] at hA
 rw [hv] at hV
 obtain⟨rfl,rfl⟩:=trodVars_none hV
 have hb:=of_decide_eq_true hk
 simp only [List.append_nil] at hb
 obtain⟨l1,l2,xs,hxs,l3,hrel⟩:=z925 (base:=base) L hL _ _ _ (fun j t v h1 h2=>hval j t v (by rw [hfn];simpa using h1) (by simpa using h2)) hA hb
 have hc:=(hf xs hxs).2 W (fun _=>False) args (fun _ h=>h.elim) (z1304 hX) ⟨by rw [l3,← l1];simp,fun i x v h1 h2=>hrel i x v h1 (by simpa using h2)⟩
 refine hc.mono fun e W' h=>?_
 obtain⟨v,rfl,hvr,hbel⟩:=h
 cases hvr
 refine⟨_,rfl,?_⟩
 have hlt:∀ y ∈ p,y.block<W.heap.size:=fun y hy=>hW'.lt y (by simpa using hy)
 have hok:Value.okWide Tryz.prog W' .any 0 4 (.bool true):=okWide_bool_mk (t:=4) Tryz.underlying4 true
 have hsf:s.fn H (ds++[])={ results:=[.lit (.bool true)],args:=ds }:=by rw [List.append_nil];exact hs H ds l2
 refine z556 (pa:=p) (pv:=[]) hW' ?_ ?_ ?_ (by simp) hbel ?_
 ·intro b sp hd
  rw [hr,hsf]
  exact trodAll_mk1 (shut_bool Tryz.underlying4 _)
 ·intro sp hsp
  rw [hfn,hsf]
  exact z922 L hL _ _ _ hA hlt hbel (fun y hy=>hsp y (by simpa using hy))
 ·intro sp hsp
  rw [hv,hsf]
  rfl
 ·exact ok_one hr rfl hok
theorem z1353 {c d e:TypeId × (DV→Prop)} {xs:List DV} (h:AllC [c,d,e] xs):∃ x y z,xs=[x,y,z]∧c.2 x∧d.2 y∧e.2 z:=by
 match xs,h with
 | [x,y,z],h=>exact⟨x,y,z,rfl,h.1,h.2.1,h.2.2.1⟩
end Go.Ab
/- Memory of the call's own that is handed over whole;drawn regions whose calls stand in an order. -/
namespace Go.Ab
open Go.RowKit
theorem CallR.own {P:Program} {st:St} {dst:Option Tmp} {g:FuncId} {xs:List AV} {m0:List Blk} {pins:List Nat} {args:List AV} {r:AV} {m1:List Blk} (ns news bads rd:List Nat) (hf:FnG P g m0 pins args r m1)
  (hnd:(ns++news).Nodup) (hl0:ns.length=m0.length) (hl1:(ns++news).length=m1.length) (hm:blksG st ns ns m0) (hnew:news.all st.fresh=true) (hla:xs.length=args.length)
  (ha:∀ (i:Nat) x y,xs[i]?=some x→args[i]?=some y→argG st ns rd x y) (hrd:rd.all (fun n=>!ns.contains n)=true) (hsh:shutG st rd) (hb:(List.range ns.length).all (fun i=>pins.contains i || bads.contains (ns.getD i 0))=true)
  (hfl:rd=[]∨(r.flatA=true∧m1.all Blk.flatB=true)) :
  CallR P st dst g xs (({ (st.keep bads) with m:=putM (ns++news) (m1.map (Blk.mapN fun i=>(ns++news)[i]?)) (st.keep bads).m }:St).put dst (r.mapN fun i=>(ns++news)[i]?)) :=
 CallR.gen m0 pins args r m1 ns news rd bads hf hnd hl0 hl1 (z386 hm).2 (fun n hn=>z24 (List.all_eq_true.1 hnew n hn)) hla ha (fun n hn=>by simpa using List.all_eq_true.1 hrd n hn) hsh
  (fun i n hi hn=>by
   have hil:=(List.getElem?_eq_some_iff.1 hi).1
   have:=List.all_eq_true.1 hb i (List.mem_range.2 hil)
   rw [Bool.or_eq_true] at this
   rcases this with h | h
   ·simpa using h
   ·rw [List.getD,hi] at h
    exact absurd (by simpa using h) hn) hfl
theorem z232 (st:St):shutG st []:=fun n hn=>by cases hn
def offM (m:Nat→Bool) (i:Nat):Nat→Bool:=fun j=>if j=i then false else m j
def depsM (m:Nat→Bool):List Edge→Prop
 | []=>True
 | e::es=>(Region.binds .any e=true→m e.on=false)∧depsM m es
theorem z574 {m:Nat→Bool}:∀ {es:List Edge},(∀ e ∈ es,Region.binds .any e=true→m e.on=false)→depsM m es
 | [],_=>trivial
 | e::es,h=>⟨h e (by simp),z574 fun e he=>h e (by simp [he])⟩
def stepsM (P:Program) (G:(Nat→Bool)→St):List Oper→Nat→Prop
 | [],_=>True
 | o::os,i=>(∀ m:Nat→Bool,m i=true→depsM m o.after.toList→dstOk o=true∧o.guard=none∧stepK P o (G m) (fun s=>s=G (offM m i)))∧stepsM P G os (i + 1)
def StepM (P:Program) (G:(Nat→Bool)→St) (o:Oper) (i:Nat):Prop:=∀ m:Nat→Bool,m i=true→depsM m o.after.toList→dstOk o=true∧o.guard=none∧stepK P o (G m) (fun s=>s=G (offM m i))
theorem z1313 {ops:Array Oper} (hb:backB ops=true) {i j:Nat} (h:Anc ops i j):i<j:=by
 induction h with
 | edge ho he hbi=>exact z158 hb ho he hbi
 | step _ _ h1 h2=>omega
structure LeftC (ops:Array Oper) (G:(Nat→Bool)→St) (rs:List Nat) (s s':St):Prop where
 now:s=G fun i=>rs.contains i
 fin:s'=G fun _=>false
 nodup:rs.Nodup
 ord:rs.Pairwise fun a b=>¬ Anc ops b a
 size:∀ i ∈ rs,i<ops.size
section
variable {P:Program} {rd:Option Nat} {n:Nat} {J:Env} {ops:Array Oper} {cs:List Code} {k:Option Nat} {st:St} {Q:Exit→Option Nat→St→Prop}
end
attribute [go_sem] offM
end Go.Ab
/- A fresh slice is a deep value too. -/
namespace Go.Ab
open Go.RowKit
theorem FnS.deep {P:Program} {f:FuncId} {args:List DV} {e z:Nat} {rows:List (List DV)} (h:FnS P f args e z rows):Fn P f args (.sl rows) :=
 ⟨h.1,fun w own vs hb hh hd=>(h.2 w own vs hb hh hd).mono fun en w' hq=>by
  obtain⟨v,μ,he,hv,hm,hbl⟩:=hq
  exact⟨v,he,z56 hm own (fun b hb=>.inl hb) (fun _=>True) (fun n b z l c _ hμ=>(hm.base n b z l c hμ).2.2) 1 (.own 0) v _ hv rfl (fun _ _=>trivial) (.inl fun _ _ _ _ _ _=>trivial),hbl⟩⟩
def closedM (m:Nat→Bool):List Oper→Nat→Prop
 | [],_=>True
 | o::os,i=>(m i=false→depsM m o.after.toList)∧closedM m os (i + 1)
theorem z499 {m:Nat→Bool}:∀ (os:List Oper) (i:Nat),(∀ r o,os[r]?=some o→m (i + r)=false→depsM m o.after.toList)→closedM m os i
 | [],_,_=>trivial
 | o::os,i,h=>⟨fun hm=>h 0 o rfl hm,z499 os (i + 1) fun r o ho hm=>h (r + 1) o (by simpa using ho) (by rw [show i + (r + 1)=i + 1 + r by omega];exact hm)⟩
def stepsC (P:Program) (all:List Oper) (G:(Nat→Bool)→St):List Oper→Nat→Prop
 | [],_=>True
 | o::os,i=>(∀ m:Nat→Bool,m i=true→depsM m o.after.toList→closedM m all 0→dstOk o=true∧o.guard=none∧stepK P o (G m) (fun s=>s=G (offM m i)))∧stepsC P all G os (i + 1)
def StepC (P:Program) (all:List Oper) (G:(Nat→Bool)→St) (o:Oper) (i:Nat):Prop:=∀ m:Nat→Bool,m i=true→depsM m o.after.toList→closedM m all 0→dstOk o=true∧o.guard=none∧stepK P o (G m) (fun s=>s=G (offM m i))
theorem z460 {P:Program} {all:List Oper} {G:(Nat→Bool)→St}:∀ (os:List Oper) (i r:Nat) (o:Oper),stepsC P all G os i→os[r]?=some o→StepC P all G o (i + r)
 | [],_,_,_,_,ho=>by simp at ho
 | p::os,i,r,o,h,ho=>by
  cases r with
  | zero =>
   have e:p=o:=by simpa using ho
   rw [← e]
   exact h.1
  | succ r =>
   have h2:=z460 os (i + 1) r o h.2 (by simpa using ho)
   have e:i + 1 + r=i + (r + 1):=by omega
   rw [e] at h2
   exact h2
structure LeftD (ops:Array Oper) (G:(Nat→Bool)→St) (rs:List Nat) (s s':St):Prop where
 left:LeftC ops G rs s s'
 done:∀ (j:Nat) (o:Oper),ops[j]?=some o→j ∉ rs→∀ e ∈ o.after,Region.binds .any e=true→e.on ∉ rs
section
variable {P:Program} {rd:Option Nat} {n:Nat} {J:Env} {ops:Array Oper} {cs:List Code} {k:Option Nat} {st:St} {Q:Exit→Option Nat→St→Prop}
end
theorem z961 {P:Program} {rd:Option Nat} {n:Nat} {J:Env} {c:Code} {cs:List Code} {k:Option Nat} {st:St} {Q:Exit→Option Nat→St→Prop} (ds:List Nat) (hw:Weak st (st.head ds [] [])) (h:WalkL P rd n J (c::cs) k (st.head ds [] []) Q) :
  WalkL P rd n J (c::cs) k st Q:=z69 hw h
end Go.Ab
/- Iterators of a second kind: they may keep memory of their own between two elements,and hand on elements from within calls. -/
namespace Go.Ab
open Go.RowKit
def Firm (J:Env) (k:Option Nat) (b o:Own) (w:World):Prop:=∀ w',BelowU b w w'→J k b o w'
theorem Firm.next {J:Env} {k:Option Nat} {b o:Own} {w w':World} (h:Firm J k b o w) (hb:BelowU b w w'):Firm J k b o w':=fun w2 h2=>h w2 (hb.trans h2)
def GivesE (P:Program) (l:Nat) (J:Env) (items:List (List DV)):Prop :=
 ∀ (m kk:Nat) (b o X:Own) (w:World) (vals:Array Value) (row:List DV),items[kk]?=some row→(∀ x,o x→b x)→(∀ x,b x→x<w.heap.size)→Firm J (some kk) b o w →
  (∀ x,X x→¬ b x∧x<w.heap.size)→DRels w (fun x=>o x∨X x) row vals →
  YieldAt (fence none) m P l vals w fun e w'=>∃ t b' o',e=.returned (.bool t)∧(∀ x,o' x→b' x)∧(∀ x,b' x→x<w'.heap.size)∧Firm J (if t then some (kk + 1) else none) b' o' w' ∧
   Stays w o w' o'∧∀ x,X x→¬ b' x
section
variable {P:Program} {base:Own} {out:Own} {st st':St} {μ:Pl} {tmps:Array Value} {w w':World} {o:Oper} {ops:Array Oper} {rd:Option Nat} {n:Nat} {J:Env} {k:Option Nat}
theorem StRel.next (h:StRel P base out st μ tmps w) (hs:w.heap.size≤w'.heap.size) (hk:∀ x,x<w.heap.size→¬ out x→w'.heap[x]?=w.heap[x]?) {b2 o2:Own}
  (ho2:∀ x,o2 x→b2 x) (hb2:∀ x,b2 x→x<w'.heap.size) (hon:∀ x,o2 x→out x∨w.heap.size≤x) (hbn:∀ x,μ.owns x→¬ b2 x):StRel P b2 o2 st μ tmps w':=by
 have hg:Goes w (ownOf out μ) w' (ownOf o2 μ):=fun b o v h1 h2=>by
  have hlt:=h2.lt
  refine⟨fun hc=>?_,?_⟩
  ·rcases hc with hc | hc
   ·rcases hon b hc with h3 | h3
    ·exact h1 (.inl h3)
    ·omega
   ·exact h1 (.inr hc)
  ·exact h2.heap (hk b hlt (fun hc=>h1 (.inl hc)))
 refine⟨h.size,fun i x v h1 h2=>(h.tmp i x v h1 h2).goes hg (fun _ _ _=>rfl),⟨fun m blk hm=>(h.mem.blk m blk hm).goes hg rfl (fun _ _=>rfl) (fun b z l c hb=>?_),h.mem.dom,h.mem.inj,fun m b z l c hb=>?_⟩,h.hid.goes hg,ho2,hb2⟩
 ·have:=h.mem.base m b z l c hb
  exact hk b this.2.1 this.2.2
 ·have:=h.mem.base m b z l c hb
  have hn:=hbn b ⟨m,z,l,c,hb⟩
  exact⟨hn,Nat.lt_of_lt_of_le this.2.1 hs,fun hc=>hn (ho2 b hc)⟩
theorem StRel.own_base (h:StRel P base out st μ tmps w):∀ x,μ.owns x→¬ base x∧x<w.heap.size:=fun x ⟨m,z,l,c,hm⟩=>⟨(h.mem.base m x z l c hm).1,(h.mem.base m x z l c hm).2.1⟩
def yieldKE (l l':Nat) (items:List (List DV)) (xs:List AV) (dst:Option Tmp) (k:Option Nat) (s:St) (K:Option Nat→St→Prop):Prop :=
 l'=l∧∃ kk row,k=some kk∧reifyAll s xs=some row∧s.arrs (AV.refsAll xs)=true∧items[kk]?=some row ∧
  K (some (kk + 1)) ((releaseAll (AV.refsAll xs) s).put dst (.d (.bool true)))∧K none ((releaseAll (AV.refsAll xs) s).put dst (.d (.bool false)))
theorem z760 (h:StRel P base out st μ tmps w) {l:Nat} {xs:List AV} (hy:yieldOf o st=some (l,xs)) {items:List (List DV)} (hG:GivesE P l J items) {kk:Nat} {row:List DV}
  (hrow:reifyAll st xs=some row) (harr:st.arrs (AV.refsAll xs)=true) (hk:items[kk]?=some row) (hJ:Firm J (some kk) base out w) {ds:List Deferred} {K:Act→World→Prop} {Q:Exit→Act→World→Prop}
  (hK:∀ (t:Bool) b' o' μ' w',StRel P b' o' ((releaseAll (AV.refsAll xs) st).put o.dst (.d (.bool t))) μ' (putT tmps o.dst (.bool t)) w'→Firm J (if t then some (kk + 1) else none) b' o' w'→Stays w (ownOf out μ) w' (ownOf o' μ') →
   K { tmps:=putT tmps o.dst (.bool t),defers:=ds } w'):o.wpIn (fence rd) n P { tmps:=tmps,defers:=ds } w K Q:=by
 refine⟨fun _ _=>trivial,?_⟩
 unfold yieldOf at hy
 split at hy
 ·rename_i f args ts ho
  split at hy
  ·rename_i l' hev
   cases hy
   have hf:=h.ev f []
   rw [hev] at hf
   have hv:val tmps f=.func (.yield l) #[] #[]:=z1127 hf
   have hargs:args.map (val tmps)=(args.toList.map (val tmps)).toArray:=by apply Array.toList_inj.1;simp
   obtain⟨μ1,h1,hless,hrels⟩:=z282 h (vs:=(args.toList.map (val tmps)).toArray) (by simp) (fun i x v hx hv=>by
    simp only [List.getElem?_map,Option.map_eq_some_iff,List.getElem?_toArray] at hx hv
    obtain⟨a,ha,rfl⟩:=hx
    obtain⟨b,hb,rfl⟩:=hv
    rw [ha] at hb;cases hb
    exact h.ev a []) hrow harr
   obtain⟨fn,tmps1,assign,body,hyr,hround⟩:=hG (n - 1) kk base out μ1.owns w _ row hk h.out h.le hJ h1.own_base hrels
   have hrun:(execOp ({ tmps:=tmps,defers:=ds }:Act).eval o).run P w=.ok (.round l fn tmps1 assign body) w:=by
    unfold execOp
    rw [z29]
    simp only [val] at hv hargs
    simp only [ho,resolve,hargs,hv,Deferred.ofValue,invoke,Sem.run_bind,Sem.run_pure,Result.andThen_ok,Array.empty_append]
    exact hyr
   rw [Oper.semAt_eq _ _ _ (by rw [ho];intro c hc;cases hc),hrun]
   simp only [Oper.uponIn_round]
   have hround':RoundIn (fence rd) (n - 1) P l fn tmps1 assign body w (fun e w'=>∃ t b' o',e=.returned (.bool t)∧(∀ x,o' x→b' x)∧(∀ x,b' x→x<w'.heap.size)∧Firm J (if t then some (kk + 1) else none) b' o' w' ∧
    Stays w out w' o'∧∀ x,μ1.owns x→¬ b' x):=hround
   refine⟨(fun hsome=>(by cases hsome)),hround'.mono ?_⟩
   rintro e w' ⟨t,b',o',rfl,q1,q2,q3,q4,q5⟩
   simp only [z94]
   have h2:StRel P b' o' (releaseAll (AV.refsAll (args.toList.map st.ev)) st) μ1 tmps w':=h1.next q4.1 (fun x hx hno=>(q4.2 x hx hno).1) q1 q2 (fun x hx=>by
    by_cases hlt:x<w.heap.size
    ·exact .inl (Classical.byContradiction fun hc=>(q4.2 x hlt hc).2 hx)
    ·exact .inr (Nat.le_of_not_lt hlt)) q5
   refine hK t b' o' μ1 w' (h2.put (.d (.bool t)) o.dst) q3 ⟨q4.1,fun x hx hno=>?_⟩
   have hno':¬ out x:=fun hc=>hno (.inl hc)
   refine⟨(q4.2 x hx hno').1,fun hc=>?_⟩
   rcases hc with hc | hc
   ·exact (q4.2 x hx hno').2 hc
   ·exact hno (hless x (.inr hc))
  ·cases hy
 ·cases hy
theorem z48 {B:Nat} (hO:EnvOk B J) {b o:Own} (hF:Firm J k b o w) (hb:∀ x,b x→x<w.heap.size) {r:Nat} (hr:B≤r) (hno:¬ o r) (ho:Other r w w'):Firm J k b o w':=by
 by_cases hrs:r<w.heap.size
 ·exact z55 hO hF hr hno hrs ho
 ·intro w2 h2
  refine hF w2 ⟨h2.os.trans ho.wrote.os,h2.tape.trans ho.wrote.tape,h2.output.trans ho.wrote.output,by rw [← ho.wrote.size];exact h2.size,fun q hq=>?_⟩
  rw [h2.block q hq]
  exact ho.wrote.block q (fun e=>by have:=hb q hq;omega)
def lendJ (X:Own) (W:World) (J:Env):Env:=fun k b o w=>(∀ x,X x→o x)∧(∀ x,X x→w.heap[x]?=W.heap[x]?)∧(∀ x,o x→b x)∧(∀ x,b x→x<w.heap.size)∧Firm J k (fun x=>b x∧¬ X x) (fun x=>o x∧¬ X x) w
theorem z1141 {X:Own} {W:World} {b o:Own} (h1:∀ x,X x→o x) (h2:∀ x,X x→w.heap[x]?=W.heap[x]?) (h3:∀ x,o x→b x) (h4:∀ x,b x→x<w.heap.size) (h5:Firm J k (fun x=>b x∧¬ X x) (fun x=>o x∧¬ X x) w) :
  Firm (lendJ X W J) k b o w:=fun w' hb =>
 ⟨h1,fun x hx=>(hb.block x (h3 x (h1 x hx))).trans (h2 x hx),h3,fun x hx=>Nat.lt_of_lt_of_le (h4 x hx) hb.size,h5.next (hb.mono fun _ h=>h.1)⟩
theorem z707 {a X:Own} (h:∀ x,X x→¬ a x):(fun x=>(a x∨X x)∧¬ X x)=a:=funext fun x=>propext ⟨fun ⟨h1,h2⟩=>h1.resolve_right h2,fun h1=>⟨.inl h1,fun hx=>h x hx h1⟩⟩
theorem z250 {X:Own} {W:World} {b o:Own} (hX:∀ x,X x→¬ b x∧x<w.heap.size) (h2:∀ x,X x→w.heap[x]?=W.heap[x]?) (h3:∀ x,o x→b x) (h4:∀ x,b x→x<w.heap.size) (h5:Firm J k b o w) :
  Firm (lendJ X W J) k (fun x=>b x∨X x) (fun x=>o x∨X x) w :=
 z1141 (fun _ h=>.inr h) h2 (fun x h=>h.imp (h3 x) id) (fun x h=>h.elim (h4 x) fun h=>(hX x h).2)
  (by rw [z707 fun x hx=>(hX x hx).1,z707 fun x hx hc=>(hX x hx).1 (h3 x hc)];exact h5)
theorem z286 {B:Nat} (hO:EnvOk B J) (X:Own) (W:World):EnvOk B (lendJ X W J):=fun k b o w w' r hr hno ho ⟨h1,h2,h3,h4,h5⟩ =>
 ⟨h1,fun x hx=>(ho.wrote.block x (fun e=>hno (e ▸ h1 x hx))).trans (h2 x hx),h3,fun x hx=>by rw [ho.wrote.size];exact h4 x hx,
  z48 hO h5 (fun x hx=>h4 x hx.1) hr (fun hc=>hno hc.1) ho⟩
theorem z293 {m l:Nat} {vals:Array Value} {R R':Ending→World→Prop} (h:YieldAt (fence none) m P l vals w R) (hr:∀ e w,R e w→R' e w):YieldAt (fence none) m P l vals w R' :=
 let ⟨fn,t,a,b,h1,h2⟩:=h
 ⟨fn,t,a,b,h1,h2.mono hr⟩
theorem z1231 {B B':Nat} (h:B≤B') (hO:EnvOk B J):EnvOk B' J:=fun k b o w w' r hr=>hO k b o w w' r (Nat.le_trans h hr)
theorem z281 {l:Nat} {items:List (List DV)} (hG:GivesE P l J items) (X:Own) (W:World):GivesE P l (lendJ X W J) items:=by
 intro m kk b o X' w vals row hi ho hb hF hX' hrow
 obtain⟨h1,h2,_,_,h5⟩:=hF w (.refl _ _)
 have hXb:∀ x,X x→b x:=fun x hx=>ho x (h1 x hx)
 refine z293 (hG m kk (fun x=>b x∧¬ X x) (fun x=>o x∧¬ X x) (fun x=>X x∨X' x) w vals row hi (fun x h=>⟨ho x h.1,h.2⟩) (fun x h=>hb x h.1) h5
  (fun x h=>h.elim (fun h=>⟨fun hc=>hc.2 h,hb x (hXb x h)⟩) fun h=>⟨fun hc=>(hX' x h).1 hc.1,(hX' x h).2⟩)
  ⟨hrow.1,fun i d v q1 q2=>(hrow.2 i d v q1 q2).goes fun b o u h3 h4=>⟨fun hc=>h3 (hc.elim (fun h=>.inl h.1) fun h=>h.elim (fun h=>.inl (h1 _ h)) .inr),h4⟩⟩) ?_
 rintro e w' ⟨t,b',o',rfl,q1,q2,q3,q4,q5⟩
 have hX:∀ x,X x→¬ b' x∧x<w'.heap.size:=fun x hx=>⟨q5 x (.inl hx),Nat.lt_of_lt_of_le (hb x (hXb x hx)) q4.1⟩
 refine⟨t,fun x=>b' x∨X x,fun x=>o' x∨X x,rfl,fun x h=>h.imp (q1 x) id,fun x h=>h.elim (q2 x) fun h=>(hX x h).2,z250 hX (fun x hx=>?_) q1 q2 q3,⟨q4.1,fun x hx hno=>?_⟩,fun x hx=>?_⟩
 ·exact (q4.2 x (hb x (hXb x hx)) (fun hc=>hc.2 hx)).1.trans (h2 x hx)
 ·obtain⟨p1,p2⟩:=q4.2 x hx (fun hc=>hno hc.1)
  exact⟨p1,fun hc=>hc.elim p2 fun h=>hno (h1 x h)⟩
 ·rintro (hc | hc)
  ·exact q5 x (.inr hx) hc
  ·exact (hX' x hx).1 (hXb x hc)
def YFn (P:Program) (f:FuncId) (l:Nat) (m0:List Blk) (args:List AV) (items:List (List DV)):Prop:=Enters P f ∧
 ∀ (J:Env) (ITEMS:List (List DV)) (k0:Nat) (w:World) (b own:Own) (μ0:Pl) (vs:Array Value),EnvOk w.heap.size J→GivesE P l J ITEMS→(∀ (i:Nat) row,items[i]?=some row→ITEMS[k0 + i]?=some row) →
  (∀ x,own x→b x)→(∀ x,b x→x<w.heap.size)→MemRel b own w μ0 (m0.map some)→Hid P w (ownOf own μ0)→args.length=vs.size →
  (∀ (i:Nat) x v,args[i]?=some x→vs[i]?=some v→AVRel w (ownOf own μ0) μ0 x v)→Firm J (some k0) b own w →
  Calls P f vs w fun e w'=>∃ t b' o' μ1,e=.returned (.bool t)∧(∀ x,o' x→b' x)∧(∀ x,b' x→x<w'.heap.size)∧MemRel b' o' w' μ1 (m0.map some)∧Firm J (if t then some (k0 + items.length) else none) b' o' w' ∧
   Stays w (ownOf own μ0) w' (ownOf o' μ1)∧∀ i,i<m0.length→μ1 i=μ0 i
def isArr:Blk→Bool
 | .arr .. | .arrP ..=>true
 | _=>false
def handed (st:St):List Nat→Option (List Blk)
 | []=>some []
 | n::ns=>match (st.m[n]?:Option (Option Blk)),handed st ns with
  | some (some b),some l=>if isArr b then some (b::l) else none
  | _,_=>none
theorem z483 {st:St}:∀ {ns:List Nat} {m0:List Blk},handed st ns=some m0→ns.length=m0.length∧∀ (i:Nat) b,m0[i]?=some b→∃ n,ns[i]?=some n∧st.m[n]?=some (some b)∧isArr b=true
 | [],m0,h=>by cases h;exact⟨rfl,fun i b h=>by simp at h⟩
 | n::ns,m0,h=>by
  unfold handed at h
  split at h
  ·rename_i b l hb hl
   split at h
   ·rename_i ha
    cases h
    obtain⟨h1,h2⟩:=z483 hl
    refine⟨by simp [h1],fun i b' hi=>?_⟩
    cases i with
    | zero=>simp at hi;subst hi;exact⟨n,rfl,hb,ha⟩
    | succ i=>simpa using h2 i b' (by simpa using hi)
   ·cases h
  ·cases h
theorem z480 {b:Blk} (h:isArr b=true) (f:Nat→Option Nat):b.mapN f=b:=by cases b <;> first | rfl | cases h
def callYK (P:Program) (l:Nat) (items:List (List DV)) (o:Oper) (k:Option Nat) (s:St) (K:Option Nat→St→Prop):Prop :=
 ∃ kk,k=some kk∧bindK (callOf o s) fun gx=>∃ (ns:List Nat) (m0:List Blk) (its:List (List DV)),ns.Nodup∧handed s ns=some m0∧YFn P gx.1 l m0 (gx.2.map (AV.mapN (inv ns))) its ∧
  (∀ (i:Nat) row,its[i]?=some row→items[kk + i]?=some row)∧K (some (kk + its.length)) (s.put o.dst (.d (.bool true)))∧K none (s.put o.dst (.d (.bool false)))
theorem z1054 (h:StRel P base out st μ tmps w) {l:Nat} {items:List (List DV)} (hG:GivesE P l J items) {B:Nat} (hO:EnvOk B J) (hB:B≤w.heap.size) {kk:Nat} (hJ:Firm J (some kk) base out w)
  {g:FuncId} {xs:List AV} (hc:callOf o st=some (g,xs)) {ns:List Nat} {m0:List Blk} {its:List (List DV)} (hnd:ns.Nodup) (hh:handed st ns=some m0) (hf:YFn P g l m0 (xs.map (AV.mapN (inv ns))) its)
  (hi:∀ (i:Nat) row,its[i]?=some row→items[kk + i]?=some row) {ds:List Deferred} {K:Act→World→Prop} {Q:Exit→Act→World→Prop}
  (hK:∀ (t:Bool) b' o' w',StRel P b' o' (st.put o.dst (.d (.bool t))) μ (putT tmps o.dst (.bool t)) w'→Firm J (if t then some (kk + its.length) else none) b' o' w'→Stays w (ownOf out μ) w' (ownOf o' μ) →
   K { tmps:=putT tmps o.dst (.bool t),defers:=ds } w'):o.wpIn (fence rd) n P { tmps:=tmps,defers:=ds } w K Q:=by
 refine⟨fun _ _=>trivial,?_⟩
 unfold callOf at hc
 split at hc
 ·rename_i f args ts ho
  obtain⟨fst,caps,hv,hl,hd⟩:=z748 h hc
  obtain⟨hln,hget⟩:=z483 hh
  obtain⟨μ0,hμ0⟩:∃ μ0:Pl,μ0=fun i=>(ns[i]?).bind μ:=⟨_,rfl⟩
  have hμ0i:∀ i n,ns[i]?=some n→μ0 i=μ n:=fun i n hi=>by rw [hμ0];simp [hi]
  have hμ0s:∀ i L,μ0 i=some L→∃ n,ns[i]?=some n∧μ n=some L:=fun i L hi=>by
   rw [hμ0] at hi
   cases hn:ns[i]? with
   | none=>simp [hn] at hi
   | some n=>simp [hn] at hi;exact⟨n,rfl,hi⟩
  obtain⟨X,hX⟩:∃ X:Own,X=fun b=>∃ n z l c,n ∉ ns∧μ n=some (.at b z l c):=⟨_,rfl⟩
  have hXm:∀ x,X x→μ.owns x:=fun x hx=>by rw [hX] at hx;obtain⟨n,z,l,c,_,h2⟩:=hx;exact⟨n,z,l,c,h2⟩
  have hXb:∀ x,X x→¬ base x∧x<w.heap.size:=fun x hx=>h.own_base x (hXm x hx)
  have hXo:∀ x,X x→¬ out x:=fun x hx hc=>(hXb x hx).1 (h.out x hc)
  have hnb:∀ i b z l c,μ0 i=some (.at b z l c)→¬ (base b∨X b):=by
   rintro i b z l c hi (hc | hc)
   ·obtain⟨n,_,hn⟩:=hμ0s i _ hi
    exact (h.mem.base n b z l c hn).1 hc
   ·rw [hX] at hc
    obtain⟨k,z',l',c',h1,h2⟩:=hc
    obtain⟨n,hn,hn2⟩:=hμ0s i _ hi
    exact h1 (h.mem.inj k n b _ _ _ _ _ _ h2 hn2 ▸ List.mem_of_getElem? hn)
  have hsub:∀ b,ownOf (fun x=>out x∨X x) μ0 b→ownOf out μ b:=by
   rintro b ((hb' | hb') | ⟨i,z,l,c,hi⟩)
   ·exact .inl hb'
   ·exact .inr (hXm b hb')
   ·obtain⟨n,_,hn⟩:=hμ0s i _ hi;exact .inr ⟨n,z,l,c,hn⟩
  have hless:Goes w (ownOf out μ) w (ownOf (fun x=>out x∨X x) μ0):=fun b o v h1 h2=>⟨fun hc=>h1 (hsub b hc),h2⟩
  have hinv:∀ n,(μ n).isSome→∀ i,inv ns n=some i→μ0 i=μ n:=fun n _ i hi=>hμ0i i n (z76 hi)
  have hM:MemRel (fun x=>base x∨X x) (fun x=>out x∨X x) w μ0 (m0.map some):=by
   refine⟨fun i b hb=>?_,fun i hi=>?_,fun a k b z l c z' l' c' h1 h2=>?_,fun i b z l c hi=>⟨hnb i b z l c hi,?_,fun hc=>hnb i b z l c hi (hc.imp (h.out b) id)⟩⟩
   ·simp only [List.getElem?_map,Option.map_eq_some_iff,Option.some.injEq] at hb
    obtain⟨b0,hb0,rfl⟩:=hb
    obtain⟨n,h1,h2,h3⟩:=hget i b0 hb0
    have:=BlkRel.mapN (n':=i) (.inl hless) (hμ0i i n h1) hinv (fun _ _ _ _ _=>rfl) (h.mem.blk n b0 h2)
    rwa [z480 h3] at this
   ·obtain⟨L,hL⟩:=Option.isSome_iff_exists.1 hi
    obtain⟨n,hn,_⟩:=hμ0s i L hL
    have:i<m0.length:=by rw [← hln];exact (List.getElem?_eq_some_iff.1 hn).1
    exact⟨m0[i],by simp [this]⟩
   ·obtain⟨n,hn,hμn⟩:=hμ0s a _ h1
    obtain⟨n',hn',hμn'⟩:=hμ0s k _ h2
    have:=h.mem.inj n n' b _ _ _ _ _ _ hμn hμn'
    subst this
    exact z129 hnd hn hn'
   ·obtain⟨n,_,hn⟩:=hμ0s i _ hi
    exact z49 h.mem hn
  have hA:∀ (i:Nat) y v,(xs.map (AV.mapN (inv ns)))[i]?=some y→(fst++(args.toList.map (val tmps)).toArray++caps)[i]?=some v→AVRel w (ownOf (fun x=>out x∨X x) μ0) μ0 y v:=by
   intro i y v hy hv
   simp only [List.getElem?_map,Option.map_eq_some_iff] at hy
   obtain⟨x,hx,rfl⟩:=hy
   exact (hd i x v hx hv).mapN (.inl hless) (fun n _ hs k hk=>hinv n hs k hk)
  have hcalls:=hf.2 (lendJ X w J) items kk w (fun x=>base x∨X x) (fun x=>out x∨X x) μ0 _ (z1231 hB (z286 hO X w)) (z281 hG X w) hi (fun x hx=>hx.imp (h.out x) id) (fun x hx=>hx.elim (h.le x) fun h=>(hXb x h).2)
   hM (h.hid.less hsub) (by simpa using hl) hA (z250 hXb (fun _ _=>rfl) h.out h.le hJ)
  have hrun:(execOp ({ tmps:=tmps,defers:=ds }:Act).eval o).run P w=.ok (.enter g (fst++(args.toList.map (val tmps)).toArray++caps)) w:=by
   unfold execOp
   rw [z29]
   have hargs:args.map (val tmps)=(args.toList.map (val tmps)).toArray:=by apply Array.toList_inj.1;simp
   simp only [val] at hv hargs
   simp only [ho,resolve,hargs,hv,Deferred.ofValue,invoke,Sem.run_bind,Sem.run_pure,Result.andThen_ok,Array.empty_append]
   exact hf.1 _ _
  rw [Oper.semAt_eq _ _ _ (by rw [ho];intro c hc;cases hc),hrun]
  simp only [Oper.uponIn_enter]
  refine⟨(fun hsome=>(by cases hsome)),?_⟩
  have hci:CallsIn (fence rd) (n - 1) P g (fst++(args.toList.map (val tmps)).toArray++caps) w _:=(callsIn_wide (n:=n - 1)).2 hcalls
  refine hci.mono ?_
  rintro e w' ⟨t,b',o',μ1,rfl,q1,q2,q3,q4,q5,q6⟩
  simp only [z94]
  obtain⟨j1,j2,_,_,j5⟩:=q4 w' (.refl _ _)
  have hpl:∀ n b z l c,μ n=some (.at b z l c)→X b∨∃ i,ns[i]?=some n∧i<m0.length∧μ1 i=some (.at b z l c):=by
   intro n b z l c hn
   by_cases hm:n ∈ ns
   ·obtain⟨i,hi⟩:=List.mem_iff_getElem?.1 hm
    have hlt:i<m0.length:=by rw [← hln];exact (List.getElem?_eq_some_iff.1 hi).1
    exact .inr ⟨i,hi,hlt,by rw [q6 i hlt,hμ0i i n hi,hn]⟩
   ·exact .inl (by rw [hX];exact⟨n,z,l,c,hm,hn⟩)
  have hstays:∀ x,x<w.heap.size→¬ ownOf out μ x→w'.heap[x]?=w.heap[x]?∧¬ ownOf (fun x=>o' x∧¬ X x) μ x:=fun x hx hno=>by
   obtain⟨p1,p2⟩:=q5.2 x hx (fun hc=>hno (hsub x hc))
   exact⟨p1,fun hc=>hc.elim (fun h=>p2 (.inl h.1)) fun h=>hno (.inr h)⟩
  have hg:Goes w (ownOf out μ) w' (ownOf (fun x=>o' x∧¬ X x) μ):=fun b o v h1 h2=>by
   obtain⟨p1,p2⟩:=hstays b h2.lt h1
   exact⟨p2,h2.heap p1⟩
  have hown1:∀ x,ownOf (fun x=>o' x∧¬ X x) μ x→ownOf o' μ1 x:=by
   rintro x (hx | ⟨n,z,l,c,hn⟩)
   ·exact .inl hx.1
   ·rcases hpl n x z l c hn with hx | ⟨i,_,_,hi⟩
    ·exact .inl (j1 x hx)
    ·exact .inr ⟨i,z,l,c,hi⟩
  have hst:StRel P (fun x=>b' x∧¬ X x) (fun x=>o' x∧¬ X x) st μ tmps w':=by
   refine⟨h.size,fun i x v h1 h2=>(h.tmp i x v h1 h2).goes hg (fun _ _ _=>rfl),⟨fun m blk hm=>?_,h.mem.dom,h.mem.inj,fun m b z l c hb=>?_⟩,h.hid.goes hg,fun x hx=>⟨q1 x hx.1,hx.2⟩,fun x hx=>q2 x hx.1⟩
   ·by_cases hmn:m ∈ ns
    ·obtain⟨i,hi⟩:=List.mem_iff_getElem?.1 hmn
     have hlt:i<m0.length:=by rw [← hln];exact (List.getElem?_eq_some_iff.1 hi).1
     obtain⟨n2,e1,e2,e3⟩:=hget i m0[i] (List.getElem?_eq_getElem hlt)
     rw [hi] at e1;cases e1
     rw [hm] at e2;cases e2
     have hb1:=q3.blk i m0[i] (by simp [hlt])
     have hμm:μ m=μ1 i:=by rw [q6 i hlt,hμ0i i m hi]
     have:=BlkRel.mapN (μ':=μ) (n':=m) (h:=fun _=>none) (.inl (fun b o v h1 h2=>⟨fun hc=>h1 (hown1 b hc),h2⟩:Goes w' (ownOf o' μ1) w' (ownOf (fun x=>o' x∧¬ X x) μ))) hμm (fun k _ j hj=>by cases hj) (fun _ _ _ _ _=>rfl) hb1
     rwa [z480 e3] at this
    ·refine (h.mem.blk m blk hm).goes hg rfl (fun _ _=>rfl) (fun b z l c hb=>?_)
     have hXx:X b:=by rw [hX];exact⟨m,z,l,c,hmn,hb⟩
     exact j2 b hXx
   ·rcases hpl m b z l c hb with hx | ⟨i,_,_,hi⟩
    ·exact⟨fun hc=>hc.2 hx,Nat.lt_of_lt_of_le (hXb b hx).2 q5.1,fun hc=>hc.2 hx⟩
    ·have:=q3.base i b z l c hi
     exact⟨fun hc=>this.1 hc.1,this.2.1,fun hc=>this.2.2 hc.1⟩
  exact hK t _ _ w' (hst.put (.d (.bool t)) o.dst) j5 ⟨q5.1,hstays⟩
 ·cases hc
end
end Go.Ab
