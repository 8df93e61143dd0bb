/- A walk engine over abstract states, and the contracts of the functions that the statement reaches: part 3. -/
import Derived.Test.YtfkbbaagifpjpaaDoorWb
import Derived.Test.YtfkbbaagifpjpaaDoorProg
import Derived.ChangeArms
import Derived.Test.YtfkbbaagifpjpaaDoorRows
import Derived.JoinedCond
import Derived.Carry
import Derived.RowKit
import Derived.LaidMore
import Derived.LaidLaws
import Derived.LaidHandle
import Derived.MakeChecks
import Derived.Deep.Strs
import Derived.WalkKit
import Derived.Deep.RegionLaw
import Derived.Lib.SliceRun
set_option linter.unusedVariables false
set_option linter.unusedSimpArgs false
set_option linter.unnecessarySimpa false
/- Drawn regions in which something is appended: what named the array before is forgotten. -/
namespace Go.Ab
open Go.RowKit
def AV.whole:AV→Bool
 | .undef=>false
 | .agg cs | .tup cs | .fn _ cs=>AV.wholes cs
 | _=>true
where AV.wholes:List AV→Bool
 | []=>true
 | x::xs=>x.whole && AV.wholes xs
def AV.lose (n:Nat) (x:AV):AV:=x.sub n fun _=>.undef
mutual
theorem lose_same (n:Nat):∀ (x:AV),n ∉ x.refs→x.sub n (fun _=>.undef)=x
 | .box k o,h=>by simp only [AV.refs,List.mem_singleton] at h;simp only [AV.sub];rw [if_neg (fun e=>h e.symm)]
 | .elem k i o,h=>by simp only [AV.refs,List.mem_singleton] at h;simp only [AV.sub];rw [if_neg (fun e=>h e.symm)]
 | .own k,h=>by simp only [AV.refs,List.mem_singleton] at h;simp only [AV.sub];rw [if_neg (fun e=>h e.symm)]
 | .view k o l,h=>by simp only [AV.refs,List.mem_singleton] at h;simp only [AV.sub];rw [if_neg (fun e=>h e.symm)]
 | .bsl k o l,h=>by simp only [AV.refs,List.mem_singleton] at h;simp only [AV.sub];rw [if_neg (fun e=>h e.symm)]
 | .mp k,h=>by simp only [AV.refs,List.mem_singleton] at h;simp only [AV.sub];rw [if_neg (fun e=>h e.symm)]
 | .vh k l,h=>by simp only [AV.refs,List.mem_singleton] at h;simp only [AV.sub];rw [if_neg (fun e=>h e.symm)]
 | .vc k l,h=>by simp only [AV.refs,List.mem_singleton] at h;simp only [AV.sub];rw [if_neg (fun e=>h e.symm)]
 | .agg cs,h=>by simp only [AV.sub];rw [z108 n cs (by simpa [AV.refs] using h)]
 | .tup cs,h=>by simp only [AV.sub];rw [z108 n cs (by simpa [AV.refs] using h)]
 | .fn f cs,h=>by simp only [AV.sub];rw [z108 n cs (by simpa [AV.refs] using h)]
 | .undef,_=>rfl
 | .void,_=>rfl
 | .d _,_=>rfl
 | .nil,_=>rfl
 | .dfull _,_=>rfl
theorem z108 (n:Nat):∀ (l:List AV),n ∉ AV.refs.AV.refss l→AV.sub.AV.subs n (fun _=>.undef) l=l
 | [],_=>rfl
 | x::xs,h=>by
  simp only [AV.refs.AV.refss,List.mem_append,not_or] at h
  simp only [AV.sub.AV.subs]
  rw [lose_same n x h.1,z108 n xs h.2]
end
mutual
theorem z454 (n:Nat):∀ (x:AV),(x.sub n (fun _=>.undef)).whole=true→n ∉ x.refs
 | .box k o,h=>by
  simp only [AV.sub] at h
  split at h
  ·simp [AV.whole] at h
  ·rename_i hk;simp only [AV.refs,List.mem_singleton];exact fun e=>hk e.symm
 | .elem k i o,h=>by
  simp only [AV.sub] at h
  split at h
  ·simp [AV.whole] at h
  ·rename_i hk;simp only [AV.refs,List.mem_singleton];exact fun e=>hk e.symm
 | .own k,h=>by
  simp only [AV.sub] at h
  split at h
  ·simp [AV.whole] at h
  ·rename_i hk;simp only [AV.refs,List.mem_singleton];exact fun e=>hk e.symm
 | .view k o l,h=>by
  simp only [AV.sub] at h
  split at h
  ·simp [AV.whole] at h
  ·rename_i hk;simp only [AV.refs,List.mem_singleton];exact fun e=>hk e.symm
 | .bsl k o l,h=>by
  simp only [AV.sub] at h
  split at h
  ·simp [AV.whole] at h
  ·rename_i hk;simp only [AV.refs,List.mem_singleton];exact fun e=>hk e.symm
 | .mp k,h=>by
  simp only [AV.sub] at h
  split at h
  ·simp [AV.whole] at h
  ·rename_i hk;simp only [AV.refs,List.mem_singleton];exact fun e=>hk e.symm
 | .vh k l,h=>by
  simp only [AV.sub] at h
  split at h
  ·simp [AV.whole] at h
  ·rename_i hk;simp only [AV.refs,List.mem_singleton];exact fun e=>hk e.symm
 | .vc k l,h=>by
  simp only [AV.sub] at h
  split at h
  ·simp [AV.whole] at h
  ·rename_i hk;simp only [AV.refs,List.mem_singleton];exact fun e=>hk e.symm
 | .dfull _,_=>by simp [AV.refs]
 | .agg cs,h=>by simp only [AV.refs];exact z148 n cs (by simpa [AV.sub,AV.whole] using h)
 | .tup cs,h=>by simp only [AV.refs];exact z148 n cs (by simpa [AV.sub,AV.whole] using h)
 | .fn f cs,h=>by simp only [AV.refs];exact z148 n cs (by simpa [AV.sub,AV.whole] using h)
 | .undef,_=>by simp [AV.refs]
 | .void,_=>by simp [AV.refs]
 | .d _,_=>by simp [AV.refs]
 | .nil,_=>by simp [AV.refs]
theorem z148 (n:Nat):∀ (l:List AV),AV.whole.AV.wholes (AV.sub.AV.subs n (fun _=>.undef) l)=true→n ∉ AV.refs.AV.refss l
 | [],_=>by simp [AV.refs.AV.refss]
 | x::xs,h=>by
  simp only [AV.sub.AV.subs,AV.whole.AV.wholes,Bool.and_eq_true] at h
  simp only [AV.refs.AV.refss,List.mem_append,not_or]
  exact⟨z454 n x h.1,z148 n xs h.2⟩
end
mutual
theorem z532 (n:Nat) (f:AV→AV):∀ (x:AV),n ∉ x.refs→x.sub n f=x
 | .box k o,h=>by simp only [AV.refs,List.mem_singleton] at h;simp only [AV.sub];rw [if_neg (fun e=>h e.symm)]
 | .elem k i o,h=>by simp only [AV.refs,List.mem_singleton] at h;simp only [AV.sub];rw [if_neg (fun e=>h e.symm)]
 | .own k,h=>by simp only [AV.refs,List.mem_singleton] at h;simp only [AV.sub];rw [if_neg (fun e=>h e.symm)]
 | .view k o l,h=>by simp only [AV.refs,List.mem_singleton] at h;simp only [AV.sub];rw [if_neg (fun e=>h e.symm)]
 | .bsl k o l,h=>by simp only [AV.refs,List.mem_singleton] at h;simp only [AV.sub];rw [if_neg (fun e=>h e.symm)]
 | .mp k,h=>by simp only [AV.refs,List.mem_singleton] at h;simp only [AV.sub];rw [if_neg (fun e=>h e.symm)]
 | .vh k l,h=>by simp only [AV.refs,List.mem_singleton] at h;simp only [AV.sub];rw [if_neg (fun e=>h e.symm)]
 | .vc k l,h=>by simp only [AV.refs,List.mem_singleton] at h;simp only [AV.sub];rw [if_neg (fun e=>h e.symm)]
 | .agg cs,h=>by simp only [AV.sub];rw [z88 n f cs (by simpa [AV.refs] using h)]
 | .tup cs,h=>by simp only [AV.sub];rw [z88 n f cs (by simpa [AV.refs] using h)]
 | .fn g cs,h=>by simp only [AV.sub];rw [z88 n f cs (by simpa [AV.refs] using h)]
 | .undef,_=>rfl
 | .void,_=>rfl
 | .d _,_=>rfl
 | .nil,_=>rfl
 | .dfull _,_=>rfl
theorem z88 (n:Nat) (f:AV→AV):∀ (l:List AV),n ∉ AV.refs.AV.refss l→AV.sub.AV.subs n f l=l
 | [],_=>rfl
 | x::xs,h=>by
  simp only [AV.refs.AV.refss,List.mem_append,not_or] at h
  simp only [AV.sub.AV.subs]
  rw [z532 n f x h.1,z88 n f xs h.2]
end
mutual
theorem z696 (n:Nat):∀ (x:AV),n ∉ (x.sub n (fun _=>.undef)).refs
 | .box k o=>by simp only [AV.sub];split <;> simp_all [AV.refs,eq_comm]
 | .elem k i o=>by simp only [AV.sub];split <;> simp_all [AV.refs,eq_comm]
 | .own k=>by simp only [AV.sub];split <;> simp_all [AV.refs,eq_comm]
 | .view k o l=>by simp only [AV.sub];split <;> simp_all [AV.refs,eq_comm]
 | .bsl k o l=>by simp only [AV.sub];split <;> simp_all [AV.refs,eq_comm]
 | .mp k=>by simp only [AV.sub];split <;> simp_all [AV.refs,eq_comm]
 | .vh k l=>by simp only [AV.sub];split <;> simp_all [AV.refs,eq_comm]
 | .vc k l=>by simp only [AV.sub];split <;> simp_all [AV.refs,eq_comm]
 | .dfull _=>by simp [AV.sub,AV.refs]
 | .agg cs=>by simp only [AV.sub,AV.refs];exact z109 n cs
 | .tup cs=>by simp only [AV.sub,AV.refs];exact z109 n cs
 | .fn g cs=>by simp only [AV.sub,AV.refs];exact z109 n cs
 | .undef=>by simp [AV.sub,AV.refs]
 | .void=>by simp [AV.sub,AV.refs]
 | .d _=>by simp [AV.sub,AV.refs]
 | .nil=>by simp [AV.sub,AV.refs]
theorem z109 (n:Nat):∀ (l:List AV),n ∉ AV.refs.AV.refss (AV.sub.AV.subs n (fun _=>.undef) l)
 | []=>by simp [AV.sub.AV.subs,AV.refs.AV.refss]
 | x::xs=>by
  simp only [AV.sub.AV.subs,AV.refs.AV.refss,List.mem_append,not_or]
  exact⟨z696 n x,z109 n xs⟩
end
theorem StRel.rename0 {P:Program} {base out:Own} {st:St} {μ:Pl} {tmps:Array Value} {w:World} (h:StRel P base out st μ tmps w) {n:Nat} (hn:μ n=none) (hl:n<st.m.length) (e z:Nat) :
  ∃ μ',StRel P base out { t:=st.t,m:=st.m.set n (some (.arr e z [])) } μ' tmps w∧∀ b,ownOf out μ' b→ownOf out μ b:=by
 have hown:∀ b,ownOf out (μ.upd n (some .none0)) b→ownOf out μ b:=by
  rintro b (hb | ⟨k,z,l,c,hb⟩)
  ·exact .inl hb
  ·by_cases hk:k=n
   ·subst hk;rw [Pl.upd_same] at hb;cases hb
   ·rw [Pl.upd_ne μ _ hk] at hb;exact .inr ⟨k,z,l,c,hb⟩
 have hg:Goes w (ownOf out μ) w (ownOf out (μ.upd n (some .none0))):=fun b o v h1 h2=>⟨fun hc=>h1 (hown b hc),h2⟩
 have hμ:∀ k,(μ k).isSome→μ.upd n (some .none0) k=μ k:=fun k hk=>Pl.upd_ne μ _ (fun e=>by subst e;rw [hn] at hk;cases hk)
 refine⟨μ.upd n (some .none0),⟨h.size,fun i x v h1 h2=>(h.tmp i x v h1 h2).goes hg (fun n _ hs=>hμ n hs),⟨fun k b hk=>?_,fun k hk=>?_,fun k q b z l c z' l' c' h1 h2=>?_,fun k b z l c hb=>?_⟩,h.hid.less hown,h.out,h.le⟩,hown⟩
 ·rw [List.getElem?_set] at hk
  by_cases hkn:n=k
  ·subst hkn
   rw [if_pos rfl,if_pos hl] at hk
   cases hk
   exact .inl ⟨Pl.upd_same μ n _,rfl⟩
  ·rw [if_neg hkn] at hk
   exact (h.mem.blk k b hk).goes hg (Pl.upd_ne μ _ (Ne.symm hkn)) hμ (fun _ _ _ _ _=>rfl)
 ·rw [List.getElem?_set]
  by_cases hkn:n=k
  ·subst hkn;exact⟨.arr e z [],by rw [if_pos rfl,if_pos hl]⟩
  ·rw [if_neg hkn]
   rw [Pl.upd_ne μ _ (Ne.symm hkn)] at hk
   exact h.mem.dom k hk
 ·by_cases hk:k=n
  ·subst hk;rw [Pl.upd_same] at h1;cases h1
  ·by_cases hq:q=n
   ·subst hq;rw [Pl.upd_same] at h2;cases h2
   ·rw [Pl.upd_ne μ _ hk] at h1
    rw [Pl.upd_ne μ _ hq] at h2
    exact h.mem.inj k q b z l c z' l' c' h1 h2
 ·by_cases hk:k=n
  ·subst hk;rw [Pl.upd_same] at hb;cases hb
  ·rw [Pl.upd_ne μ _ hk] at hb
   exact h.mem.base k b z l c hb
def killT:Option Nat→List AV→List AV
 | none,t=>t
 | some n,t=>t.map (AV.sub n fun _=>.undef)
def killM:Option Nat→List (Option Blk)→List (Option Blk)
 | none,m=>m
 | some n,m=>subMem n (fun _=>.undef) m
def St.applyA (st:St) (dst:Option Tmp) (e:Eff) (k:Option Nat):St:=({ t:=killT k st.t,m:=killM k st.m }:St).apply dst e
def appOf (P:Program) (st:St) (dst:Option Tmp) (t t':TypeId) (s x:AV):Option (Eff × Option Nat):=if t'=t then match dst,tslice P t with
 | some d,some e=>match tsz P e,tbytes P e,(tzero P e).map (·.cells.size),elemsOf st x with
  | some z,some by_,some zl,some xs=>if zl=z∧0<z∧0<by_∧by_≤2 ^ 7∧headIs z xs then (match s with
    | .nil=>match st.fresh d with
     | true=>if xs.length≤2 ^ 39 then some (⟨.own d,some (d,.arr e z xs)⟩,none) else none
     | _=>none
    | .own n=>match st.m[n]? with
     | some (some (.arr e' z' rows))=>if e'=e∧z'=z∧rows.length + xs.length≤2 ^ 39 then some (⟨.own n,some (n,.arr e z (rows++xs))⟩,some n) else none
     | _=>none
    | .vc n len=>match st.m[n]? with
     | some (some (.arrP e' z' rows))=>if e'=e∧z'=z∧rows.length=len∧xs.length=1 then some (⟨.vh n (len + 1),some (n,.arrP e z (rows++xs))⟩,none) else none
     | _=>none
    | .dfull rows=>match st.fresh d with
     | true=>if rows.length + xs.length≤2 ^ 39∧0<rows.length∧0<xs.length∧headIs z rows then some (⟨.own d,some (d,.arr e z (rows++xs))⟩,none) else none
     | _=>none
    | _=>none) else none
  | _,_,_,_=>none
 | _,_=>none else none
def refsRows:List (List AV)→List Nat
 | []=>[]
 | r::l=>AV.refs.AV.refss r++refsRows l
def Blk.names:Blk→List Nat
 | .box row=>AV.refs.AV.refss row
 | .arrA _ _ rows=>refsRows rows
 | _=>[]
def boxTab:List (Option Blk)→Nat→List (Nat × List Nat)
 | [],_=>[]
 | some (.box row)::l,i=>(i,AV.refs.AV.refss row)::boxTab l (i + 1)
 | none::l,i=>boxTab l (i + 1)
 | some (.arr ..)::l,i=>boxTab l (i + 1)
 | some (.mp ..)::l,i=>boxTab l (i + 1)
 | some (.arrP ..)::l,i=>boxTab l (i + 1)
 | some (.arrA _ _ rows)::l,i=>(i,refsRows rows)::boxTab l (i + 1)
inductive EffA (P:Program) (o:Oper) (st:St):Eff→Option Nat→Prop where
 | old (e:Eff) (h:EffR P o st e):EffA P o st e none
 | app (t t':TypeId) (s x:Operand) (e:Eff) (k:Option Nat) (ho:o.op=.call { callee:=.builtin .append,args:=#[s,x],argTypes:=#[t,t'] })
   (h:appOf P st o.dst t t' (st.ev s) (st.ev x)=some (e,k)):EffA P o st e k
 | appR (t t':TypeId) (s x:Operand) (d n:Nat) (el z:Nat) (rows:List (List DV)) (hd:o.dst=some d) (hl:n<st.m.length) (hdl:d<st.t.length) (ho:o.op=.call { callee:=.builtin .append,args:=#[s,x],argTypes:=#[t,t'] })
   (h:appOf P st o.dst t t' (st.ev s) (st.ev x)=some (⟨.own n,some (n,.arr el z rows)⟩,some n)):EffA P o st ⟨.d (.sl rows),some (n,.arr el z [])⟩ (some n)
 | litD (d:Nat) (e z:Nat) (rows:List (List DV)) (t:TypeId) (len:Nat) (parts:Array (Nat × Operand)) (ho:o.op=.buildSlice t len parts) (hd:o.dst=some d) (hf:st.fresh d=true) (hdl:d<st.t.length)
   (h:opBuildSlice P st t len (parts.toList.map fun p=>(p.1,st.ev p.2))=some (.arr e z rows)) (hr:AV.refsAll (parts.toList.map fun p=>st.ev p.2)=[]):EffA P o st ⟨.d (.sl rows),none⟩ none
theorem z84:∀ (m:List (Option Blk)) (i j:Nat) (b:Blk) (n:Nat),m[j]?=some (some b)→n ∈ b.names→(i + j,b.names) ∈ boxTab m i
 | [],_,_,_,_,h,_=>by simp at h
 | none::l,i,j,b,n,h,hn=>by
  cases j with
  | zero=>simp at h
  | succ j=>simp only [boxTab];rw [show i + (j + 1)=i + 1 + j by omega];exact z84 l (i + 1) j b n (by simpa using h) hn
 | some (.arr _ _ _)::l,i,j,b,n,h,hn=>by
  cases j with
  | zero=>simp at h;subst h;cases hn
  | succ j=>simp only [boxTab];rw [show i + (j + 1)=i + 1 + j by omega];exact z84 l (i + 1) j b n (by simpa using h) hn
 | some (.arrP _ _ _)::l,i,j,b,n,h,hn=>by
  cases j with
  | zero=>simp at h;subst h;cases hn
  | succ j=>simp only [boxTab];rw [show i + (j + 1)=i + 1 + j by omega];exact z84 l (i + 1) j b n (by simpa using h) hn
 | some (.mp _ _ _)::l,i,j,b,n,h,hn=>by
  cases j with
  | zero=>simp at h;subst h;cases hn
  | succ j=>simp only [boxTab];rw [show i + (j + 1)=i + 1 + j by omega];exact z84 l (i + 1) j b n (by simpa using h) hn
 | some (.box r)::l,i,j,b,n,h,hn=>by
  cases j with
  | zero=>simp at h;subst h;simp [boxTab,Blk.names]
  | succ j=>simp only [boxTab,List.mem_cons];rw [show i + (j + 1)=i + 1 + j by omega];exact .inr (z84 l (i + 1) j b n (by simpa using h) hn)
 | some (.arrA _ _ r)::l,i,j,b,n,h,hn=>by
  cases j with
  | zero=>simp at h;subst h;simp [boxTab,Blk.names]
  | succ j=>simp only [boxTab,List.mem_cons];rw [show i + (j + 1)=i + 1 + j by omega];exact .inr (z84 l (i + 1) j b n (by simpa using h) hn)
mutual
theorem z1166 (n:Nat):∀ (x:AV),∀ k ∈ (x.sub n (fun _=>.undef)).refs,k ∈ x.refs
 | .box k o,q,h=>by simp only [AV.sub] at h;split at h <;> simp_all [AV.refs]
 | .elem k i o,q,h=>by simp only [AV.sub] at h;split at h <;> simp_all [AV.refs]
 | .own k,q,h=>by simp only [AV.sub] at h;split at h <;> simp_all [AV.refs]
 | .view k o l,q,h=>by simp only [AV.sub] at h;split at h <;> simp_all [AV.refs]
 | .bsl k o l,q,h=>by simp only [AV.sub] at h;split at h <;> simp_all [AV.refs]
 | .mp k,q,h=>by simp only [AV.sub] at h;split at h <;> simp_all [AV.refs]
 | .vh k l,q,h=>by simp only [AV.sub] at h;split at h <;> simp_all [AV.refs]
 | .vc k l,q,h=>by simp only [AV.sub] at h;split at h <;> simp_all [AV.refs]
 | .agg cs,q,h=>by simp only [AV.sub,AV.refs] at h ⊢;exact z133 n cs q h
 | .tup cs,q,h=>by simp only [AV.sub,AV.refs] at h ⊢;exact z133 n cs q h
 | .fn f cs,q,h=>by simp only [AV.sub,AV.refs] at h ⊢;exact z133 n cs q h
 | .undef,_,h=>h
 | .void,_,h=>h
 | .d _,_,h=>h
 | .nil,_,h=>h
 | .dfull _,_,h=>h
theorem z133 (n:Nat):∀ (l:List AV),∀ k ∈ AV.refs.AV.refss (AV.sub.AV.subs n (fun _=>.undef) l),k ∈ AV.refs.AV.refss l
 | [],_,h=>h
 | x::xs,q,h=>by
  simp only [AV.sub.AV.subs,AV.refs.AV.refss,List.mem_append] at h ⊢
  rcases h with h | h
  ·exact .inl (z1166 n x q h)
  ·exact .inr (z133 n xs q h)
end
theorem z91 {rows:List (List AV)} {n:Nat}:n ∈ refsRows rows↔∃ r ∈ rows,n ∈ AV.refs.AV.refss r:=by
 induction rows with
 | nil=>simp [refsRows]
 | cons r l ih=>simp [refsRows,ih]
theorem Blk.lose_same {n:Nat} {b:Blk} (h:n ∉ b.names):b.sub n (fun _=>.undef)=b:=by
 cases b with
 | box row=>simp only [Blk.sub];rw [← AV.subs_eq,z108 n row h]
 | arr=>rfl
 | mp=>rfl
 | arrP=>rfl
 | arrA e z rows =>
  simp only [Blk.sub]
  congr 1
  exact (List.map_congr_left fun r hr=>by rw [← AV.subs_eq,z108 n r (fun hc=>h (z91.2 ⟨r,hr,hc⟩))];rfl).trans (List.map_id rows)
theorem Blk.sub_names {n k:Nat} {b:Blk} (h:k ∈ (b.sub n (fun _=>.undef)).names):k ∈ b.names:=by
 cases b with
 | box row=>simp only [Blk.sub,Blk.names] at h ⊢;rw [← AV.subs_eq] at h;exact z133 n row k h
 | arr=>cases h
 | mp=>cases h
 | arrP=>cases h
 | arrA e z rows =>
  simp only [Blk.sub,Blk.names] at h ⊢
  obtain⟨r,hr,hk⟩:=z91.1 h
  obtain⟨r0,hr0,rfl⟩:=List.mem_map.1 hr
  rw [← AV.subs_eq] at hk
  exact z91.2 ⟨r0,hr0,z133 n r0 k hk⟩
theorem z1174 {k:Option Nat} {m:List (Option Blk)} {q:Nat} (h:∀ n b,k=some n→m[q]?=some (some b)→n ∉ b.names):(killM k m)[q]?=m[q]?:=by
 cases k with
 | none=>rfl
 | some n =>
  simp only [killM,z24]
  cases hm:m[q]? with
  | none=>rfl
  | some ob =>
   cases ob with
   | none=>rfl
   | some b=>simp only [Option.map_some];rw [Blk.lose_same (h n b rfl hm)]
theorem z980 {n:Nat} {m:List (Option Blk)} {q:Nat} {b:Blk} (h:n ∉ b.names):subMem n (fun _=>.undef) (m.set q (some b))=(subMem n (fun _=>.undef) m).set q (some b):=by
 apply List.ext_getElem?
 intro i
 have hl:(subMem n (fun _=>AV.undef) m).length=m.length:=by
  have:∀ m:List (Option Blk),(subMem n (fun _=>AV.undef) m).length=m.length:=by
   intro m
   induction m with
   | nil=>rfl
   | cons x xs ih=>cases x <;> simp [subMem,ih]
  exact this m
 rw [z24,List.getElem?_set,List.getElem?_set,z24,hl]
 by_cases hq:q=i
 ·subst hq
  rw [if_pos rfl,if_pos rfl]
  split
  ·simp only [Option.map_some];rw [Blk.lose_same h]
  ·rfl
 ·rw [if_neg hq,if_neg hq]
section
variable {P:Program} {ops:Array Oper} {o:Oper} {s st:St}
theorem z487 {t t':TypeId} {s x:Operand} {e:Eff} {k:Option Nat} (ho:o.op=.call { callee:=.builtin .append,args:=#[s,x],argTypes:=#[t,t'] })
  (h:appOf P st o.dst t t' (st.ev s) (st.ev x)=some (e,k)):stepOp P o st=some (st.applyA o.dst e k):=by
 unfold stepOp
 rw [ho]
 simp only [List.map_cons,List.map_nil]
 unfold appOf at h
 unfold opAppend
 split at h
 ·rename_i htt
  rw [if_pos htt]
  split at h
  ·rename_i d e' hd he
   rw [hd,he]
   simp only
   split at h
   ·rename_i z by_ zl xs h1 h2 h3 h4
    rw [h1,h2,h3,h4]
    simp only
    split at h
    ·rename_i hc
     rw [if_pos hc]
     split at h
     ·rename_i hs
      rw [hs]
      simp only
      split at h
      ·rename_i hfr
       rw [hfr]
       simp only
       split at h
       ·rename_i hl
        rw [if_pos hl]
        cases h
        rfl
       ·cases h
      ·cases h
     ·rename_i n hs
      rw [hs]
      simp only
      split at h
      ·rename_i e2 z2 rows hm
       rw [hm]
       simp only
       split at h
       ·rename_i hl
        rw [if_pos hl]
        cases h
        rfl
       ·cases h
      ·cases h
     ·rename_i n len hs
      rw [hs]
      simp only
      split at h
      ·rename_i e2 z2 rows hm
       rw [hm]
       simp only
       split at h
       ·rename_i hl
        rw [if_pos hl]
        cases h
        rfl
       ·cases h
      ·cases h
     ·rename_i rows hs
      rw [hs]
      simp only
      split at h
      ·rename_i hfr
       rw [hfr]
       simp only
       split at h
       ·rename_i hl
        rw [if_pos hl]
        cases h
        rfl
       ·cases h
      ·cases h
     ·cases h
    ·cases h
   ·cases h
  ·cases h
 ·cases h
theorem EffA.step {e:Eff} {k:Option Nat} (h:EffA P o st e k):StepR P o st (st.applyA o.dst e k):=by
 cases h with
 | old e h=>exact h.step
 | app t t' s x _ _ ho h=>exact .inr (.inl ⟨by simp [isCall,ho],z487 ho h⟩)
 | appR t t' s x d n el z rows hd hl hdl ho h =>
  refine .inr (.inr ⟨by simp [isCall,ho],_,z487 ho h,fun base out μ tmps w μ1 tmps1 w1 _ h1=>?_⟩)
  have hn1:(st.applyA o.dst ⟨.own n,some (n,.arr el z rows)⟩ (some n)).m[n]?=some (some (.arr el z rows)):=by
   have:(killM (some n) st.m).length=st.m.length:=by
    have:∀ m:List (Option Blk),(subMem n (fun _=>AV.undef) m).length=m.length:=by
     intro m
     induction m with
     | nil=>rfl
     | cons x xs ih=>cases x <;> simp [subMem,ih]
    exact this _
   simp only [St.applyA,St.apply]
   rw [List.getElem?_set_self (by rw [this];exact hl)]
  obtain⟨μ2,h2,_,hless,hgone⟩:=h1.release n
  obtain⟨μ3,h3,hless3⟩:=h2.rename0 (hgone ⟨_,hn1⟩) (by
   have:=(List.getElem?_eq_some_iff.1 hn1).1
   unfold St.release
   rw [hn1]
   have e:∀ (f:AV→AV) (m:List (Option Blk)),(subMem n f m).length=m.length:=by
    intro f m
    induction m with
    | nil=>rfl
    | cons x xs ih=>cases x <;> simp [subMem,ih]
   simp only [e,List.length_set]
   exact this) el z
  refine⟨μ3,?_,fun b hb=>hless b (hless3 b hb)⟩
  have key:({ t:=((st.applyA o.dst ⟨.own n,some (n,.arr el z rows)⟩ (some n)).release n).t,m:=((st.applyA o.dst ⟨.own n,some (n,.arr el z rows)⟩ (some n)).release n).m.set n (some (.arr el z [])) }:St)=st.applyA o.dst ⟨.d (.sl rows),some (n,.arr el z [])⟩ (some n):=by
   have e1:(st.applyA o.dst ⟨.own n,some (n,.arr el z rows)⟩ (some n)).release n={ t:=(st.applyA o.dst ⟨.own n,some (n,.arr el z rows)⟩ (some n)).t.map (AV.sub n (snapLeaf (.arr el z rows))),m:=subMem n (snapLeaf (.arr el z rows)) ((st.applyA o.dst ⟨.own n,some (n,.arr el z rows)⟩ (some n)).m.set n none) }:=by
    unfold St.release
    rw [hn1]
   rw [e1]
   have ht:(st.applyA o.dst ⟨.own n,some (n,.arr el z rows)⟩ (some n)).t.map (AV.sub n (snapLeaf (.arr el z rows)))=(st.applyA o.dst ⟨.d (.sl rows),some (n,.arr el z [])⟩ (some n)).t:=by
    rw [hd]
    simp only [St.applyA,St.apply,St.put,killT,List.map_set,List.map_map]
    have:(AV.sub n (snapLeaf (.arr el z rows)) ∘ AV.sub n fun _=>AV.undef)=AV.sub n fun _=>AV.undef:=funext fun x=>z532 n _ _ (z696 n x)
    rw [this]
    simp [AV.sub,snapLeaf]
   have hm:(subMem n (snapLeaf (.arr el z rows)) ((st.applyA o.dst ⟨.own n,some (n,.arr el z rows)⟩ (some n)).m.set n none)).set n (some (.arr el z []))=(st.applyA o.dst ⟨.d (.sl rows),some (n,.arr el z [])⟩ (some n)).m:=by
    simp only [St.applyA,St.apply,killM,List.set_set]
    apply List.ext_getElem?
    intro i
    have hlen:∀ (f:AV→AV) (m:List (Option Blk)),(subMem n f m).length=m.length:=by
     intro f m
     induction m with
     | nil=>rfl
     | cons x xs ih=>cases x <;> simp [subMem,ih]
    rw [List.getElem?_set,List.getElem?_set,hlen,List.length_set]
    by_cases hi:n=i
    ·rw [if_pos hi,if_pos hi]
    ·rw [if_neg hi,if_neg hi,z24,List.getElem?_set_ne hi,z24]
     cases st.m[i]? with
     | none=>rfl
     | some ob =>
      cases ob with
      | none=>rfl
      | some b =>
       cases b with
       | box row =>
        simp only [Option.map_some,Blk.sub]
        rw [← AV.subs_eq,← AV.subs_eq,z88 n _ _ (z109 n row)]
       | arr=>rfl
       | mp=>rfl
       | arrP=>rfl
       | arrA e' z' rows' =>
        simp only [Option.map_some,Blk.sub,Option.some.injEq,Blk.arrA.injEq,true_and,List.map_map]
        exact List.map_congr_left fun r hr=>by simp only [Function.comp_def];rw [← AV.subs_eq,← AV.subs_eq,z88 n _ _ (z109 n r)]
   rw [ht,hm]
  rw [← key]
  exact h3
 | litD d e z rows t len parts ho hd hf hdl h hr =>
  have hst:stepOp P o st=some (st.addBlk d (.own d) (.arr e z rows)):=by
   have:=(EffR.lit (P:=P) d e z rows t len parts ho hd hf h hr)
   have hps:(parts.toList.map fun p=>(p.1,st.ev p.2)).map (·.2)=parts.toList.map fun p=>st.ev p.2:=by simp [Function.comp_def]
   unfold stepOp
   rw [ho]
   simp only [h,hd,Option.getD_some,hf,hps,hr]
   rfl
  refine .inr (.inr ⟨by simp [isCall,ho],_,hst,fun base out μ tmps w μ1 tmps1 w1 h0 h1=>?_⟩)
  have hfr:=z19 hf
  have hl:d<st.m.length:=(List.getElem?_eq_some_iff.1 hfr).1
  have hn1:(st.addBlk d (.own d) (.arr e z rows)).m[d]?=some (some (.arr e z rows)):=by simp only [St.addBlk];rw [List.getElem?_set_self hl]
  obtain⟨μ2,h2,_,hless,hgone⟩:=h1.release d
  refine⟨μ2,?_,hless⟩
  have hnp:=z113 h0.mem hfr
  have norefs:∀ (i:Nat) x,st.t[i]?=some x→d ∉ x.refs:=fun i x hx hc=>by
   have hi:i<tmps.size:=by rw [h0.size];exact (List.getElem?_eq_some_iff.1 hx).1
   have:=(h0.tmp i x tmps[i] hx (by simp [hi])).placed d hc
   rw [hnp] at this;cases this
  have norefm:∀ (i:Nat) b,st.m[i]?=some (some b)→d ∉ b.names:=fun i b hrow hc=>by
   have many:∀ (l:List AV),d ∈ AV.refs.AV.refss l→∃ (j:Nat) (x:AV),l[j]?=some x∧d ∈ x.refs:=by
    intro l
    induction l with
    | nil=>intro h;simp [AV.refs.AV.refss] at h
    | cons y ys ih =>
     intro h
     simp only [AV.refs.AV.refss,List.mem_append] at h
     rcases h with h | h
     ·exact⟨0,y,rfl,h⟩
     ·obtain⟨j,x,h1,h2⟩:=ih h;exact⟨j + 1,x,by simpa using h1,h2⟩
   cases b with
   | arr=>cases hc
   | mp=>cases hc
   | arrP=>cases hc
   | box row =>
    obtain⟨b,cs,ty,q1,q2,q3,q4⟩:=h0.mem.box hrow
    obtain⟨j,x,hx,hdx⟩:=many row hc
    have hj:j<cs.size:=Nat.lt_of_lt_of_le (List.getElem?_eq_some_iff.1 hx).1 q3
    have:=(q4 j x cs[j] hx (by simp [hj])).2.placed d hdx
    rw [hnp] at this;cases this
   | arrA e' z' rows' =>
    obtain⟨r,hr,hk⟩:=z91.1 hc
    obtain⟨j,x,hx,hdx⟩:=many r hk
    obtain⟨i',hi'⟩:=List.mem_iff_getElem?.1 hr
    rcases h0.mem.blk i _ hrow with ⟨_,rfl⟩ | ⟨b,cap,cs,q1,q2,q3,q4,q5,q6,q7⟩
    ·cases hr
    ·obtain⟨v,_,_,hv⟩:=q7 i' r j x hi' hx
     have:=hv.placed d hdx
     rw [hnp] at this;cases this
  have key:(st.addBlk d (.own d) (.arr e z rows)).release d=st.applyA o.dst ⟨.d (.sl rows),none⟩ none:=by
   have e1:(st.addBlk d (.own d) (.arr e z rows)).release d={ t:=(st.addBlk d (.own d) (.arr e z rows)).t.map (AV.sub d (snapLeaf (.arr e z rows))),m:=subMem d (snapLeaf (.arr e z rows)) ((st.addBlk d (.own d) (.arr e z rows)).m.set d none) }:=by
    unfold St.release
    rw [hn1]
   rw [e1,hd]
   simp only [St.addBlk,St.applyA,St.apply,St.put,killT,killM,List.map_set,List.set_set]
   have ht:st.t.map (AV.sub d (snapLeaf (.arr e z rows)))=st.t:=by
    apply List.ext_getElem?
    intro i
    rw [List.getElem?_map]
    cases hx:st.t[i]? with
    | none=>rfl
    | some x=>simp only [Option.map_some];rw [z532 d _ x (norefs i x hx)]
   have hm:subMem d (snapLeaf (.arr e z rows)) (st.m.set d none)=st.m:=by
    apply List.ext_getElem?
    intro i
    rw [z24,List.getElem?_set]
    by_cases hi:d=i
    ·subst hi
     rw [if_pos rfl,if_pos hl,hfr]
     rfl
    ·rw [if_neg hi]
     cases hx:st.m[i]? with
     | none=>rfl
     | some ob =>
      cases ob with
      | none=>rfl
      | some b =>
       cases b with
       | box row=>simp only [Option.map_some,Blk.sub];rw [← AV.subs_eq,z88 d _ row (norefm i _ hx)]
       | arr=>rfl
       | mp=>rfl
       | arrP=>rfl
       | arrA e' z' rows' =>
        simp only [Option.map_some,Blk.sub,Option.some.injEq,Blk.arrA.injEq,true_and]
        exact (List.map_congr_left fun r hr=>by rw [← AV.subs_eq,z88 d _ r (fun hc=>norefm i _ hx (z91.2 ⟨r,hr,hc⟩))];rfl).trans (List.map_id rows')
   rw [ht,hm]
   simp [AV.sub,snapLeaf]
  rw [← key]
  exact h2
theorem z365 {s s':St} {dst:Option Tmp} {t t':TypeId} {a x:AV} (h:Agree (a.refs++x.refs++dst.toList) s.m s'.m):appOf P s dst t t' a x=appOf P s' dst t t' a x:=by
 unfold appOf
 rw [z97 (st':=s') (h.mono fun n hn=>by simp [hn])]
 cases dst with
 | none=>rfl
 | some d =>
  have hfr:=z117 (s:=s) (s':=s') (h d (by simp))
  cases a with
  | own n=>simp only [h n (by simp [AV.refs])]
  | vc n len=>simp only [h n (by simp [AV.refs])]
  | dfull rows =>
   split
   ·split
    ·rename_i hd _
     cases hd
     split
     ·split
      ·rw [hfr]
      ·rfl
     ·rfl
    ·rfl
   ·rfl
  | nil =>
   split
   ·split
    ·rename_i hd _
     cases hd
     split
     ·split
      ·rw [hfr]
      ·rfl
     ·rfl
    ·rfl
   ·rfl
  | _=>rfl
def EffGA (P:Program) (ops:Array Oper) (o:Oper) (s:St) (e:Eff) (k:Option Nat):Prop:=match guardT ops o with
 | none=>False
 | some none=>EffA P o s e k
 | some (some (t,want))=>(s.ev (.tmp t)=.d (.bool want)∧EffA P o s e k)∨((s.ev (.tmp t)=.d (.bool (!want))∨s.ev (.tmp t)=.void)∧e=⟨.void,none⟩∧k=none)
theorem EffGA.step {e:Eff} {k:Option Nat} (h:EffGA P ops o s e k):StepG P ops o s (s.applyA o.dst e k):=by
 unfold EffGA at h
 unfold StepG
 unfold guardT at h
 cases hg:o.guard with
 | none=>rw [hg] at h;exact h.step
 | some gw =>
  obtain⟨j,want⟩:=gw
  rw [hg] at h
  simp only at h ⊢
  cases ht:(ops[j]?).bind (·.dst) with
  | none=>rw [ht] at h;exact h.elim
  | some t =>
   rw [ht] at h
   refine⟨t,rfl,?_⟩
   rcases h with ⟨h1,h2⟩ | ⟨h1,rfl,rfl⟩
   ·exact .inl ⟨h1,h2.step⟩
   ·exact .inr ⟨h1,by cases o.dst <;> rfl⟩
structure RecA where
 i:Nat
 e:Eff
 k:Option Nat
 N:List Nat
 R:List Nat
 u:Bool
def boxE (e:Eff):List Nat:=match e.m with
 | some (_,b)=>b.names
 | _=>[]
structure LocalA (P:Program) (ops:Array Oper) (o:Oper) (s:St) (r:RecA):Prop where
 eff:EffGA P ops o s r.e r.k
 loc:∀ s':St,(∀ t ∈ o.looksAt ops,s.ev (.tmp t)=s'.ev (.tmp t))→s.t.length=s'.t.length→s.m.length=s'.m.length→Agree r.N s.m s'.m→EffGA P ops o s' r.e r.k
 look:∀ t ∈ o.looksAt ops,∀ n ∈ (s.ev (.tmp t)).refs,n ∈ r.R
 whole:r.u=true→∀ t ∈ o.looksAt ops,(s.ev (.tmp t)).whole=true
 val:∀ n ∈ r.e.v.refs,n ∈ r.R
inductive ChainA (P:Program) (ops:Array Oper):List RecA→St→St→Prop where
 | nil (s:St):ChainA P ops [] s s
 | cons {r:RecA} {rs:List RecA} {s s':St} {o:Oper} (ho:ops[r.i]?=some o) (hd:dstOk o=true) (h:LocalA P ops o s r) (ht:ChainA P ops rs (s.applyA o.dst r.e r.k) s'):ChainA P ops (r::rs) s s'
def missB (k:Option Nat) (R:List Nat):Bool:=match k with
 | none=>true
 | some n=>!R.contains n
abbrev KeyA:=Nat × List Nat × List Nat × Option Nat × List Nat × Bool × List Nat
def RecA.key (r:RecA):KeyA:=(r.i,r.e.name,r.N,r.k,r.R,r.u,boxE r.e)
def clearB (Bf:Nat→List Nat) (k:Option Nat) (b:KeyA):Bool:=match k with
 | none=>true
 | some n=>(Bf n).all fun q=>!(b.2.2.1.contains q || b.2.1.contains q)
def indepA (ops:Array Oper) (Bf:Nat→List Nat) (a b:KeyA):Bool:=indepB ops (a.1,a.2.1,a.2.2.1) (b.1,b.2.1,b.2.2.1) &&
 ((a.2.2.2.1.isNone || (b.2.2.2.2.2.1 && missB a.2.2.2.1 b.2.2.2.2.1)) && ((missB b.2.2.2.1 a.2.2.2.2.1 && (a.2.2.2.1.isNone || b.2.2.2.1.isNone)) && (clearB Bf a.2.2.2.1 b && clearB Bf b.2.2.2.1 a)))
theorem z364 {dst:Option Tmp} {e:Eff} {k:Option Nat} {t:Tmp} (h:dst≠some t) (hk:∀ n,k=some n→n ∉ (s.ev (.tmp t)).refs):(s.applyA dst e k).ev (.tmp t)=s.ev (.tmp t):=by
 unfold St.applyA
 rw [z300 h]
 cases k with
 | none=>rfl
 | some n =>
  have:=hk n rfl
  simp only [St.ev,killT,List.getD_eq_getElem?_getD,List.getElem?_map] at this ⊢
  cases hx:s.t[t]? with
  | none=>rfl
  | some x =>
   rw [hx] at this
   simp only [Option.map_some,Option.getD_some] at this ⊢
   exact lose_same n x this
theorem z1115 {dst:Option Tmp} {e:Eff} {k:Option Nat} {t:Tmp} (h:dst≠some t) (hw:((s.applyA dst e k).ev (.tmp t)).whole=true):(s.applyA dst e k).ev (.tmp t)=s.ev (.tmp t):=by
 refine z364 h fun n hk=>?_
 subst hk
 unfold St.applyA at hw
 rw [z300 h] at hw
 simp only [St.ev,killT,List.getD_eq_getElem?_getD,List.getElem?_map] at hw ⊢
 cases hx:s.t[t]? with
 | none=>simp [AV.refs]
 | some x =>
  rw [hx] at hw
  simp only [Option.map_some,Option.getD_some] at hw ⊢
  exact z454 n x hw
theorem z923 {dst:Option Tmp} {e:Eff} {k:Option Nat} {n:Nat} (h:n ∉ e.name) (hk:∀ q b,k=some q→s.m[n]?=some (some b)→q ∉ b.names):(s.applyA dst e k).m[n]?=s.m[n]?:=by
 unfold St.applyA
 rw [z895 h]
 exact z1174 hk
theorem z1167 {n:Nat} {v:AV} (hv:n ∉ v.refs) (t:List AV) (a:Nat):(t.set a v).map (AV.sub n fun _=>.undef)=(t.map (AV.sub n fun _=>.undef)).set a v:=by
 rw [List.map_set,lose_same n v hv]
theorem z896 {d d':Option Tmp} {e e':Eff} {k k':Option Nat} (hd:∀ t,d=some t→d'≠some t) (hn:∀ n ∈ e.name,n ∉ e'.name) (h1:∀ n,k=some n→n ∉ e'.v.refs∧n ∉ boxE e') (h2:∀ n,k'=some n→n ∉ e.v.refs∧n ∉ boxE e) (h3:k=none∨k'=none) :
  (s.applyA d e k).applyA d' e' k'=(s.applyA d' e' k').applyA d e k:=by
 have key:∀ (s:St) (d d':Option Tmp) (e e':Eff) (n:Nat),(∀ t,d=some t→d'≠some t)→(∀ n ∈ e.name,n ∉ e'.name)→n ∉ e'.v.refs→n ∉ boxE e'→(s.applyA d e (some n)).applyA d' e' none=(s.applyA d' e' none).applyA d e (some n):=by
  intro s d d' e e' n hd hn hv hb
  have e1:(s.applyA d e (some n)).applyA d' e' none=(({ t:=killT (some n) s.t,m:=killM (some n) s.m }:St).apply d e).apply d' e':=rfl
  have e2:(s.applyA d' e' none).applyA d e (some n)=(({ t:=killT (some n) s.t,m:=killM (some n) s.m }:St).apply d' e').apply d e:=by
   have:({ t:=killT (some n) (s.apply d' e').t,m:=killM (some n) (s.apply d' e').m }:St)=({ t:=killT (some n) s.t,m:=killM (some n) s.m }:St).apply d' e':=by
    have ht:killT (some n) (s.apply d' e').t=(({ t:=killT (some n) s.t,m:=killM (some n) s.m }:St).apply d' e').t:=by
     cases d' with
     | none=>rfl
     | some a =>
      simp only [St.apply,St.put,killT]
      rw [z1167 hv]
    have hm:killM (some n) (s.apply d' e').m=(({ t:=killT (some n) s.t,m:=killM (some n) s.m }:St).apply d' e').m:=by
     obtain⟨v',m'⟩:=e'
     cases m' with
     | none=>rfl
     | some nb =>
      obtain⟨q,b⟩:=nb
      simp only [St.apply,killM]
      exact z980 (by simpa [boxE] using hb)
    rw [ht,hm]
   show ({ t:=killT (some n) (s.apply d' e').t,m:=killM (some n) (s.apply d' e').m }:St).apply d e=_
   rw [this]
  rw [e1,e2]
  exact z266 hd hn
 cases k with
 | none =>
  cases k' with
  | none=>exact z266 hd hn
  | some n=>exact (key s d' d e' e n (fun t h h'=>hd t h' h) (fun a h h'=>hn a h' h) (h2 n rfl).1 (h2 n rfl).2).symm
 | some n =>
  cases k' with
  | none=>exact key s d d' e e' n hd hn (h1 n rfl).1 (h1 n rfl).2
  | some n'=>rcases h3 with h3 | h3 <;> cases h3
def InB (Bf:Nat→List Nat) (Ks:List Nat) (m:List (Option Blk)):Prop:=∀ n ∈ Ks,∀ (i:Nat) b,m[i]?=some (some b)→n ∈ b.names→i ∈ Bf n
def okRec (Bf:Nat→List Nat) (Ks:List Nat) (r:RecA):Prop:=(∀ n,r.k=some n→n ∈ Ks)∧∀ n ∈ boxE r.e,n ∈ Ks→∀ q ∈ r.e.name,q ∈ Bf n
theorem InB.apply {Bf:Nat→List Nat} {Ks:List Nat} (h:InB Bf Ks s.m) {dst:Option Tmp} {e:Eff} {k:Option Nat} (hb:∀ n ∈ boxE e,n ∈ Ks→∀ q ∈ e.name,q ∈ Bf n):InB Bf Ks (s.applyA dst e k).m:=by
 intro n hn i row h1 h2
 obtain⟨v,m⟩:=e
 have old:(killM k s.m)[i]?=some (some row)→i ∈ Bf n:=by
  intro h3
  cases k with
  | none=>exact h n hn i row h3 h2
  | some q =>
   simp only [killM,z24,Option.map_eq_some_iff] at h3
   obtain⟨ob,hob,b,hb1,hb2⟩:=h3
   subst hb1
   subst hb2
   exact h n hn i b hob (Blk.sub_names h2)
 cases m with
 | none=>exact old h1
 | some nb =>
  obtain⟨q,b⟩:=nb
  simp only [St.applyA,St.apply] at h1
  rw [List.getElem?_set] at h1
  split at h1
  ·rename_i hqi
   split at h1
   ·cases h1
    exact hb n (by simpa [boxE] using h2) hn i (by simp [Eff.name,hqi])
   ·cases h1
  ·exact old h1
theorem z159 (s:St) (d:Option Tmp) (e:Eff) (k:Option Nat):(s.applyA d e k).t.length=s.t.length:=by
 cases d <;> cases k <;> simp [St.applyA,St.apply,St.put,killT]
theorem z160 (s:St) (d:Option Tmp) (e:Eff) (k:Option Nat):(s.applyA d e k).m.length=s.m.length:=by
 have h:∀ (f:AV→AV) (n:Nat) (m:List (Option Blk)),(subMem n f m).length=m.length:=by
  intro f n m
  induction m with
  | nil=>rfl
  | cons x xs ih=>cases x <;> simp [subMem,ih]
 have hk:(killM k s.m).length=s.m.length:=by cases k <;> simp [killM,h]
 obtain⟨v,m⟩:=e
 cases m with
 | none=>exact hk
 | some nb=>simp [St.applyA,St.apply,hk]
theorem z1306 {Bf:Nat→List Nat} {Ks:List Nat} {a b:RecA} {s s':St} {rs:List RecA} (hi:indepA ops Bf a.key b.key=true) (hF:InB Bf Ks s.m) (ha:okRec Bf Ks a) (hb:okRec Bf Ks b) (h:ChainA P ops (a::b::rs) s s'):ChainA P ops (b::a::rs) s s':=by
 cases h with
 | cons ho hd h ht =>
 rename_i x
 cases ht with
 | cons ho' hd' h' ht =>
 rename_i y
 simp only [indepA,RecA.key,indepB,ho,ho',Bool.and_eq_true,List.all_eq_true,Bool.not_eq_true',Bool.or_eq_false_iff,List.contains_eq_mem,decide_eq_false_iff_not,Bool.or_eq_true,Option.isNone_iff_eq_none] at hi
 obtain⟨⟨⟨h1,h2⟩,h3⟩,hk1,⟨hk2,hk3⟩,hc1,hc2⟩:=hi
 obtain⟨a1,a2,a3⟩:=Oper.apart_spec h1
 have miss:∀ {k:Option Nat} {R:List Nat},missB k R=true→∀ n,k=some n→n ∉ R:=by
  intro k R hm n hk hn
  subst hk
  simp [missB,hn] at hm
 have clear:∀ {k:Option Nat} {r:RecA},clearB Bf k (r.i,r.e.name,r.N,r.k,r.R,r.u,boxE r.e)=true→∀ n,k=some n→∀ q ∈ Bf n,q ∉ r.N∧q ∉ r.e.name:=by
  intro k r hc n hk q hq
  subst hk
  simp only [clearB,List.all_eq_true,Bool.not_eq_true',Bool.or_eq_false_iff,List.contains_eq_mem,decide_eq_false_iff_not] at hc
  exact hc q hq
 have noBox:∀ {k:Option Nat} {r:RecA},okRec Bf Ks r→(∀ n,k=some n→n ∈ Ks)→clearB Bf k (r.i,r.e.name,r.N,r.k,r.R,r.u,boxE r.e)=true→∀ n,k=some n→n ∉ boxE r.e:=by
  intro k r hr hK hc n hk hn
  have:∃ q,q ∈ r.e.name:=by
   unfold boxE at hn
   split at hn
   ·rename_i q row hq;exact⟨q,by simp [Eff.name,hq]⟩
   ·simp at hn
  obtain⟨q,hq⟩:=this
  exact (clear hc n hk q (hr.2 n hn (hK n hk) q hq)).2 hq
 -- b first
 have hev1:∀ t ∈ y.looksAt ops,(s.applyA x.dst a.e a.k).ev (.tmp t)=s.ev (.tmp t):=by
  intro t ht
  rcases hk1 with hk | ⟨hu,_⟩
  ·exact z364 (fun hd=>a1 t hd ht) (fun n hn=>by rw [hk] at hn;cases hn)
  ·exact z1115 (fun hd=>a1 t hd ht) (h'.whole hu t ht)
 have hm1:Agree b.N (s.applyA x.dst a.e a.k).m s.m:=fun n hn=>z923 (fun hc=>(h2 n hc).1 hn) fun q row hk hrow hq=>(clear hc1 q hk n (hF q (ha.1 q hk) n row hrow hq)).1 hn
 have hbl:LocalA P ops y s b:=⟨h'.loc s hev1 (z159 ..) (z160 ..) hm1,fun s2 he2 htl2 hml2 ha2=>h'.loc s2 (fun t ht=>(hev1 t ht).trans (he2 t ht)) ((z159 ..).trans htl2) ((z160 ..).trans hml2) (fun n hn=>(hm1 n hn).trans (ha2 n hn)),
  fun t ht n hn=>h'.look t ht n (by rw [hev1 t ht];exact hn),fun hu t ht=>by rw [← hev1 t ht];exact h'.whole hu t ht,h'.val⟩
 -- then a
 have hev2:∀ t ∈ x.looksAt ops,s.ev (.tmp t)=(s.applyA y.dst b.e b.k).ev (.tmp t):=fun t ht=>(z364 (fun hd=>a3 t hd ht) (fun n hn hc=>miss hk2 n hn (h.look t ht n hc))).symm
 have hm2:Agree a.N s.m (s.applyA y.dst b.e b.k).m:=fun n hn=>(z923 (fun hc=>(h3 n hc).1 hn) fun q row hk hrow hq=>(clear hc2 q hk n (hF q (hb.1 q hk) n row hrow hq)).1 hn).symm
 have hal:LocalA P ops x (s.applyA y.dst b.e b.k) a:=⟨h.loc _ hev2 (z159 ..).symm (z160 ..).symm hm2,fun s2 he2 htl2 hml2 ha2=>h.loc s2 (fun t ht=>(hev2 t ht).trans (he2 t ht)) ((z159 ..).symm.trans htl2) ((z160 ..).symm.trans hml2) (fun n hn=>(hm2 n hn).trans (ha2 n hn)),
  fun t ht n hn=>h.look t ht n (by rw [hev2 t ht];exact hn),fun hu t ht=>by rw [← hev2 t ht];exact h.whole hu t ht,h.val⟩
 refine .cons ho' hd' hbl (.cons ho hd hal ?_)
 rw [← z896 (fun t hd hd2=>a2 t hd hd2) (fun n hn=>(h2 n hn).2) (fun n hn=>⟨fun hc=>?_,noBox hb ha.1 hc1 n hn⟩) (fun n hn=>⟨fun hc=>miss hk2 n hn (h.val n hc),noBox ha hb.1 hc2 n hn⟩) hk3]
 ·exact ht
 ·rcases hk1 with hk | ⟨_,hk⟩
  ·rw [hk] at hn;cases hn
  ·exact miss hk n hn (h'.val n hc)
theorem z1110 {Bf:Nat→List Nat} {Ks:List Nat} {r:RecA} {B:List RecA} {s':St} (hr:okRec Bf Ks r):∀ (A:List RecA) (s:St),InB Bf Ks s.m→(∀ a ∈ A,okRec Bf Ks a)→(∀ a ∈ A,indepA ops Bf a.key r.key=true)→ChainA P ops (A++r::B) s s'→ChainA P ops (r::(A++B)) s s'
 | [],_,_,_,_,h=>h
 | a::A,s,hF,hA,hi,h=>by
  cases h with
  | cons ho hd h ht =>
  have:=z1110 hr A _ (hF.apply (hA a (by simp)).2) (fun b hb=>hA b (by simp [hb])) (fun b hb=>hi b (by simp [hb])) ht
  exact z1306 (hi a (by simp)) hF (hA a (by simp)) hr (.cons ho hd h this)
def FreeChain (P:Program) (ops:Array Oper) (Bf:Nat→List Nat) (Ks:List Nat) (rs:List RecA) (s s':St):Prop:=InB Bf Ks s.m∧(∀ r ∈ rs,okRec Bf Ks r)∧ChainA P ops rs s s'
def pairsA (ops:Array Oper) (Bf:Nat→List Nat) (ms:List Nat):List KeyA→Bool
 | []=>true
 | a::l=>l.all (fun b=>(ms.getD b.1 0).testBit a.1 || indepA ops Bf a b) && pairsA ops Bf ms l
theorem z328 {Bf:Nat→List Nat} (hm:∀ k i,((masks ops.toList []).getD k 0).testBit i=true→Anc ops i k):∀ {rs:List RecA},pairsA ops Bf (masks ops.toList []) (rs.map RecA.key)=true→rs.Pairwise (fun a b=>Anc ops a.i b.i∨indepA ops Bf a.key b.key=true)
 | [],_=>.nil
 | a::rs,h=>by
  simp only [List.map_cons,pairsA,Bool.and_eq_true,List.all_eq_true,List.mem_map,forall_exists_index,and_imp,forall_apply_eq_imp_iff₂,Bool.or_eq_true] at h
  refine .cons (fun b hb=>?_) (z328 hm h.2)
  rcases h.1 b hb with h1 | h1
  ·exact .inl (hm _ _ h1)
  ·exact .inr h1
def inBoxes (B0:List (Nat × List Nat)) (acc:List KeyA) (n:Nat):List Nat:=(B0.flatMap fun p=>if p.2.contains n then [p.1] else [])++acc.flatMap fun b=>if b.2.2.2.2.2.2.contains n then b.2.1 else []
def killsOf (rs:List RecA):List Nat:=rs.filterMap (·.k)
theorem z704 (rs:List RecA):InB (inBoxes (boxTab s.m 0) (rs.map RecA.key)) (killsOf rs) s.m∧∀ r ∈ rs,okRec (inBoxes (boxTab s.m 0) (rs.map RecA.key)) (killsOf rs) r:=by
 refine⟨fun n _ i row h1 h2=>?_,fun r hr=>⟨fun n hk=>List.mem_filterMap.2 ⟨r,hr,hk⟩,fun n hn _ q hq=>?_⟩⟩
 ·have:=z84 s.m 0 i row n h1 h2
  rw [Nat.zero_add] at this
  refine List.mem_append_left _ (List.mem_flatMap.2 ⟨_,this,?_⟩)
  simp [h2]
 ·refine List.mem_append_right _ (List.mem_flatMap.2 ⟨r.key,List.mem_map.2 ⟨r,hr,rfl⟩,?_⟩)
  simp [RecA.key,hn,hq]
end
def lookRefs (s:St) (ops:Array Oper) (o:Oper):List Nat:=(o.looksAt ops).flatMap fun t=>(s.ev (.tmp t)).refs
def lookWhole (s:St) (ops:Array Oper) (o:Oper):Bool:=(o.looksAt ops).all fun t=>(s.ev (.tmp t)).whole
def relB (rl:List Nat) (dst:Option Tmp):Bool:=match dst with
 | some d=>rl.contains d
 | none=>false
def relE (rl:List Nat) (dst:Option Tmp) (s:St) (r:Eff × Option Nat):Option (Eff × Option Nat):=if relB rl dst=true then (match r,dst with
  | (⟨.own n,some (n',.arr el z rows)⟩,some n''),some d=>match s.m[n]?,s.t[d]? with
   | some _,some _=>if n=n'∧n=n'' then some (⟨.d (.sl rows),some (n,.arr el z [])⟩,some n) else none
   | _,_=>none
  | _,_=>none) else some r
def effA (P:Program) (rl:List Nat) (o:Oper) (s:St) (C:Eff→Option Nat→List Nat→Prop):Prop:=match o.op with
 | .call { callee:=.builtin .append,args,argTypes }=>match argTypes.toList,args.toList with
  | [t,t'],[a,x]=>bindK (appOf P s o.dst t t' (s.ev a) (s.ev x)) fun r=>bindK (relE rl o.dst s r) fun r=>C r.1 r.2 ((s.ev a).refs++(s.ev x).refs++o.dst.toList)
  | _,_=>False
 | .buildSlice t len parts=>if relB rl o.dst=true then (bindK o.dst fun d=>bindK (opBuildSlice P s t len (parts.toList.map fun p=>(p.1,s.ev p.2))) fun b =>
   AV.refsAll (parts.toList.map fun p=>s.ev p.2)=[]∧s.fresh d=true∧match s.t[d]?,b with
    | some _,.arr _ _ rows=>C ⟨.d (.sl rows),none⟩ none [d]
    | _,_=>False) else effK P o s fun e N=>C e none N
 | _=>effK P o s fun e N=>C e none N
def guardRunA (P:Program) (rl:List Nat) (t:AV) (want:Bool) (o:Oper) (s:St) (R:Eff→Option Nat→List Nat→Prop):Prop:=∀ K':Eff→Option Nat→List Nat→Prop,(∀ e k N,R e k N→K' e k N)→guardK t want (effA P rl o s K') (K' ⟨.void,none⟩ none [])
def runA (P:Program) (rl:List Nat) (ops:Array Oper) (B0:List (Nat × List Nat)):List Oper→Nat→List KeyA→St→(St→Prop)→Prop
 | [],_,acc,s,K=>pairsA ops (inBoxes B0 acc.reverse) (masks ops.toList []) acc.reverse=true∧K s
 | o::os,i,acc,s,K=>dstOk o=true∧match guardT ops o with
  | none=>False
  | some none=>effA P rl o s fun e k N=>runA P rl ops B0 os (i + 1) ((i,e.name,N,k,lookRefs s ops o++e.v.refs,lookWhole s ops o,boxE e)::acc) (s.applyA o.dst e k) K
  | some (some (t,want))=>guardRunA P rl (s.ev (.tmp t)) want o s fun e k N=>runA P rl ops B0 os (i + 1) ((i,e.name,N,k,lookRefs s ops o++e.v.refs,lookWhole s ops o,boxE e)::acc) (s.applyA o.dst e k) K
section
variable {P:Program} {rd:Option Nat} {n:Nat} {J:Env} {k:Option Nat} {st:St} {ops:Array Oper} {Q:Exit→Option Nat→St→Prop} {o:Oper} {s:St}
theorem z734 {rl:List Nat} {C:Eff→Option Nat→List Nat→Prop} (h:effA P rl o s C):∃ e k N,(EffA P o s e k∧∀ s':St,(∀ x ∈ o.op.operands,s.ev x=s'.ev x)→s.t.length=s'.t.length→s.m.length=s'.m.length→Agree N s.m s'.m→EffA P o s' e k)∧C e k N:=by
 unfold effA at h
 split at h
 ·rename_i ho
  split at h
  ·rename_i hts hargs
   obtain⟨⟨e,k⟩,h1,⟨e',k'⟩,hr,h3⟩:=h
   have e1:=z76 hts
   have e2:=z76 hargs
   subst e1;subst e2
   unfold relE at hr
   split at hr
   ·split at hr
    ·rename_i n n' el z rows n'' d hrr hdd
     split at hr
     ·rename_i y1 y2 hm ht
      split at hr
      ·rename_i hnn
       obtain⟨rfl,rfl⟩:=hnn
       cases hrr
       cases hr
       have hl:=(List.getElem?_eq_some_iff.1 hm).1
       have hdl:=(List.getElem?_eq_some_iff.1 ht).1
       refine⟨_,_,_,⟨.appR _ _ _ _ d n el z rows hdd hl hdl ho h1,fun s' he htl hml hag=>.appR _ _ _ _ d n el z rows hdd (by rw [← hml];exact hl) (by rw [← htl];exact hdl) ho ?_⟩,h3⟩
       rw [← he _ (by rw [ho];simp [Op.operands,Call.operands]),← he _ (by rw [ho];simp [Op.operands,Call.operands]),← z365 hag]
       exact h1
      ·cases hr
     ·cases hr
    ·cases hr
   ·cases hr
    refine⟨e,k,_,⟨.app _ _ _ _ e k ho h1,fun s' he _ _ hag=>.app _ _ _ _ e k ho ?_⟩,h3⟩
    rw [← he _ (by rw [ho];simp [Op.operands,Call.operands]),← he _ (by rw [ho];simp [Op.operands,Call.operands]),← z365 hag]
    exact h1
  ·exact h.elim
 ·rename_i t len parts ho
  split at h
  ·obtain⟨d,hd,b,hb,hr,hf,h⟩:=h
   split at h
   ·rename_i y e z rows ht
    have hdl:=(List.getElem?_eq_some_iff.1 ht).1
    refine⟨_,_,_,⟨.litD d e z rows t len parts ho hd hf hdl hb hr,fun s' he htl _ hag=>?_⟩,h⟩
    have hev:∀ p ∈ parts.toList,s.ev p.2=s'.ev p.2:=fun p hp=>he p.2 (by rw [ho];simp only [Op.operands,List.mem_toArray,List.mem_map];exact⟨p,hp,rfl⟩)
    have e1:(parts.toList.map fun p=>(p.1,s'.ev p.2))=parts.toList.map fun p=>(p.1,s.ev p.2):=List.map_congr_left fun p hp=>by rw [hev p hp]
    have e2:(parts.toList.map fun p=>s'.ev p.2)=parts.toList.map fun p=>s.ev p.2:=List.map_congr_left fun p hp=>by rw [hev p hp]
    have hps:(parts.toList.map fun p=>(p.1,s.ev p.2)).map (·.2)=parts.toList.map fun p=>s.ev p.2:=by simp [Function.comp_def]
    refine .litD d e z rows t len parts ho hd (by rw [← z117 (hag d (by simp))];exact hf) (by rw [← htl];exact hdl) ?_ (by rw [e2];exact hr)
    rw [e1,← hb]
    unfold opBuildSlice
    rw [hps,hr]
    simp only [z175 (s:=s') (s':=s) hr,St.arrs]
   ·exact h.elim
  ·obtain⟨e,N,h1,h2⟩:=z230 h
   exact⟨e,none,N,⟨.old e h1.1,fun s' he _ _ hag=>.old e (h1.2 s' he hag)⟩,h2⟩
 ·obtain⟨e,N,h1,h2⟩:=z230 h
  exact⟨e,none,N,⟨.old e h1.1,fun s' he _ _ hag=>.old e (h1.2 s' he hag)⟩,h2⟩
theorem z293 {e:Eff} {k:Option Nat} {N:List Nat} {i:Nat} (h1:EffGA P ops o s e k) (h2:∀ s':St,(∀ t ∈ o.looksAt ops,s.ev (.tmp t)=s'.ev (.tmp t))→s.t.length=s'.t.length→s.m.length=s'.m.length→Agree N s.m s'.m→EffGA P ops o s' e k) :
  LocalA P ops o s ⟨i,e,k,N,lookRefs s ops o++e.v.refs,lookWhole s ops o⟩ :=
 ⟨h1,h2,fun t ht n hn=>List.mem_append_left _ (by simp only [lookRefs,List.mem_flatMap];exact⟨t,ht,hn⟩),fun hu t ht=>by simp only [lookWhole,List.all_eq_true] at hu;exact hu t ht,fun n hn=>List.mem_append_right _ hn⟩
theorem z244 {rl:List Nat} {B0:List (Nat × List Nat)}:∀ (os:List Oper) (i:Nat) (acc:List KeyA) (s:St) (K:St→Prop),(∀ j o,os[j]?=some o→ops[i + j]?=some o)→runA P rl ops B0 os i acc s K →
  ∃ rs s',ChainA P ops rs s s'∧rs.map (·.i)=List.range' i os.length∧pairsA ops (inBoxes B0 (acc.reverse++rs.map RecA.key)) (masks ops.toList []) (acc.reverse++rs.map RecA.key)=true∧K s'
 | [],i,acc,s,K,_,h=>⟨[],s,.nil s,rfl,by simpa using h.1,h.2⟩
 | o::os,i,acc,s,K,hos,h=>by
  obtain⟨hd,h⟩:=h
  have hos':∀ j o',os[j]?=some o'→ops[i + 1 + j]?=some o':=fun j o' hj=>by have:=hos (j + 1) o' (by simpa using hj);rwa [show i + 1 + j=i + (j + 1) by omega]
  have ho:ops[i]?=some o:=by simpa using hos 0 o (by simp)
  have fin:∀ (e:Eff) (k:Option Nat) (N:List Nat),LocalA P ops o s ⟨i,e,k,N,lookRefs s ops o++e.v.refs,lookWhole s ops o⟩ →
    (∃ rs s',ChainA P ops rs (s.applyA o.dst e k) s'∧rs.map (·.i)=List.range' (i + 1) os.length∧pairsA ops (inBoxes B0 (((i,e.name,N,k,lookRefs s ops o++e.v.refs,lookWhole s ops o,boxE e)::acc).reverse++rs.map RecA.key)) (masks ops.toList []) (((i,e.name,N,k,lookRefs s ops o++e.v.refs,lookWhole s ops o,boxE e)::acc).reverse++rs.map RecA.key)=true∧K s') →
    ∃ rs s',ChainA P ops rs s s'∧rs.map (·.i)=List.range' i (o::os).length∧pairsA ops (inBoxes B0 (acc.reverse++rs.map RecA.key)) (masks ops.toList []) (acc.reverse++rs.map RecA.key)=true∧K s':=by
   rintro e k N hl ⟨rs,s',h1,h2,h3,h4⟩
   refine⟨⟨i,e,k,N,lookRefs s ops o++e.v.refs,lookWhole s ops o⟩::rs,s',.cons ho hd hl h1,by simp [h2,List.range'_succ],?_,h4⟩
   simpa [RecA.key] using h3
  cases hg:guardT ops o with
  | none=>rw [hg] at h;exact h.elim
  | some g =>
   rw [hg] at h
   cases g with
   | none =>
    obtain⟨e,k,N,⟨h1,h1'⟩,h2⟩:=z734 h
    refine fin e k N (z293 (by simp only [EffGA,hg];exact h1) fun s' he htl hml ha=>?_) (z244 os (i + 1) _ _ K hos' h2)
    simp only [EffGA,hg]
    exact h1' s' (z298 he) htl hml ha
   | some tw =>
    obtain⟨t,want⟩:=tw
    obtain⟨j,hj,ht⟩:=z82 hg
    have hmem:t ∈ o.looksAt ops:=List.mem_append_right _ (by rw [hj];simp [ht])
    have h:=h _ fun e k N hs=>z244 os (i + 1) _ _ K hos' hs
    unfold guardK at h
    split at h
    ·rename_i b hev
     by_cases hb:b=want
     ·obtain⟨e,k,N,⟨h1,h1'⟩,h2⟩:=z734 (h.1 hb)
      refine fin e k N (z293 (by simp only [EffGA,hg];exact .inl ⟨by rw [hev,hb],h1⟩) fun s' he htl hml ha=>?_) h2
      simp only [EffGA,hg]
      exact .inl ⟨by rw [← he t hmem,hev,hb],h1' s' (z298 he) htl hml ha⟩
     ·have hb':b=!want:=by cases b <;> cases want <;> simp_all
      refine fin _ _ _ (z293 (by unfold EffGA;rw [hg];exact .inr ⟨.inl (by rw [hev,hb']),rfl,rfl⟩) fun s' he htl hml ha=>?_) (h.2 hb')
      unfold EffGA;rw [hg]
      exact .inr ⟨.inl (by rw [← he t hmem,hev,hb']),rfl,rfl⟩
    ·rename_i hev
     refine fin _ _ _ (z293 (by unfold EffGA;rw [hg];exact .inr ⟨.inr hev,rfl,rfl⟩) fun s' he htl hml ha=>?_) h
     unfold EffGA;rw [hg]
     exact .inr ⟨.inr (by rw [← he t hmem,hev]),rfl,rfl⟩
    ·exact h.elim
theorem z755 {rl:List Nat} {id:Nat} (hfol:P.follows .mixedOrders=true) (hback:backB ops=true) (h:runA P rl ops (boxTab st.m 0) ops.toList 0 [] st (Q .normal k)):Walk P rd n J (.region id ops true) k st Q:=fun B base out μ tmps w ds _ hst hJ hM=>by
 obtain⟨rs,s',h1,h2,h3,h4⟩:=z244 _ _ _ _ _ (fun j o hj=>by simpa using hj) h
 simp only [List.reverse_nil,List.nil_append] at h3
 have hfree:=z704 (s:=st) rs
 refine z282 (ix:=RecA.i) (I:=fun a b=>indepA ops (inBoxes (boxTab st.m 0) (rs.map RecA.key)) a.key b.key=true) (C:=FreeChain P ops (inBoxes (boxTab st.m 0) (rs.map RecA.key)) (killsOf rs)) (fun s s' h=>by obtain⟨_,_,h⟩:=h;cases h;rfl) ?_ ?_ hfol hback (by rw [h2,List.range_eq_range'];simp)
  (z328 (fun k i=>z107 ops.toList [] (fun k i hk=>by simp at hk) (fun k o hk=>by simpa using hk) k i) h3) ⟨hfree.1,hfree.2,h1⟩ hst fun tmps' μ' w' h5 hk hS=>.step hJ h5 hk hS hM h4
 ·rintro r rs' s s' ⟨hF,hR,hc⟩
  cases hc with
  | cons ho hd hl ht=>exact⟨_,_,ho,hd,hl.eff.step,hF.apply (hR r (by simp)).2,fun q hq=>hR q (by simp [hq]),ht⟩
 ·rintro r B s s' A hA ⟨hF,hR,hc⟩
  refine⟨hF,fun q hq=>hR q ?_,z1110 (hR r (by simp)) A s hF (fun a ha=>hR a (by simp [ha])) hA hc⟩
  simp only [List.mem_cons,List.mem_append] at hq ⊢
  rcases hq with rfl | hq | hq
  ·exact .inr (.inl rfl)
  ·exact .inl hq
  ·exact .inr (.inr hq)
theorem z576 {id:Nat} {cs:List Code} (rl:List Nat) (hfol:P.follows .mixedOrders=true) (hback:backB ops=true) (h:∀ K:St→Prop,(∀ s,WalkL P rd n J cs k s Q→K s)→runA P rl ops (boxTab st.m 0) ops.toList 0 [] st K):WalkL P rd n J (.region id ops true::cs) k st Q :=
 z755 hfol hback (h _ fun _ h=>h)
theorem z273 {id:Nat} {cs:List Code} (hfol:P.follows .mixedOrders=true) (hback:backB ops=true) (h:∀ K:St→Prop,(∀ s,WalkL P rd n J cs k s Q→K s)→runA P [] ops (boxTab st.m 0) ops.toList 0 [] st K):WalkL P rd n J (.region id ops true::cs) k st Q :=
 z576 [] hfol hback h
end
def oldA (C:Eff→Option Nat→List Nat→Prop) (e:Eff) (N:List Nat):Prop:=C e none N
theorem z1236 (P:Program) (rl:List Nat) (o:Oper) (s:St) (C:Eff→Option Nat→List Nat→Prop):effA P rl o s C=(match o.op with
 | .call { callee:=.builtin .append,args,argTypes }=>match argTypes.toList,args.toList with
  | [t,t'],[a,x]=>bindK (appOf P s o.dst t t' (s.ev a) (s.ev x)) fun r=>bindK (relE rl o.dst s r) fun r=>C r.1 r.2 ((s.ev a).refs++(s.ev x).refs++o.dst.toList)
  | _,_=>False
 | .buildSlice t len parts=>if relB rl o.dst=true then (bindK o.dst fun d=>bindK (opBuildSlice P s t len (parts.toList.map fun p=>(p.1,s.ev p.2))) fun b =>
   AV.refsAll (parts.toList.map fun p=>s.ev p.2)=[]∧s.fresh d=true∧match s.t[d]?,b with
    | some _,.arr _ _ rows=>C ⟨.d (.sl rows),none⟩ none [d]
    | _,_=>False) else effK P o s (oldA C)
 | _=>effK P o s (oldA C)):=rfl
theorem z735 {P:Program} {rl:List Nat} {o:Oper} {s:St} {C C':Eff→Option Nat→List Nat→Prop} (h:effA P rl o s C) (hC:∀ e k N,C e k N→C' e k N):effA P rl o s C':=by
 unfold effA at h ⊢
 split
 ·rename_i ho
  simp only [ho] at h
  split at h
  ·obtain⟨r,h1,r',h2,h3⟩:=h
   exact⟨r,h1,r',h2,hC _ _ _ h3⟩
  ·exact h.elim
 ·rename_i ho
  simp only [ho] at h
  split at h
  ·rename_i hr
   rw [if_pos hr]
   obtain⟨d,hd,b,hb,h1,h2,h3⟩:=h
   refine⟨d,hd,b,hb,h1,h2,?_⟩
   split at h3
   ·exact hC _ _ _ h3
   ·exact h3.elim
  ·rename_i hr
   rw [if_neg hr]
   exact z231 h fun e N hc=>hC _ _ _ hc
 ·rename_i hno hno2
  split at h
  ·rename_i ho;exact absurd ho (hno _ _)
  ·rename_i ho;exact absurd ho (hno2 _ _ _)
  ·exact z231 h fun e N hc=>hC _ _ _ hc
theorem z719 (P:Program) (rl:List Nat) (o:Oper) (s:St) (R:Eff→Option Nat→List Nat→Prop):guardRunA P rl (.d (.bool true)) true o s R=effA P rl o s R:=by
 apply propext
 exact⟨fun h=>(h R (fun _ _ _ h=>h)).1 rfl,fun h K' hK=>⟨fun _=>z735 h hK,fun e=>(by cases e)⟩⟩
theorem z722 (P:Program) (rl:List Nat) (o:Oper) (s:St) (R:Eff→Option Nat→List Nat→Prop):guardRunA P rl (.d (.bool false)) false o s R=effA P rl o s R:=by
 apply propext
 exact⟨fun h=>(h R (fun _ _ _ h=>h)).1 rfl,fun h K' hK=>⟨fun _=>z735 h hK,fun e=>(by cases e)⟩⟩
theorem z720 (P:Program) (rl:List Nat) (o:Oper) (s:St) (R:Eff→Option Nat→List Nat→Prop):guardRunA P rl (.d (.bool true)) false o s R=R ⟨.void,none⟩ none []:=by
 apply propext
 exact⟨fun h=>(h R (fun _ _ _ h=>h)).2 rfl,fun h K' hK=>⟨fun e=>(by cases e),fun _=>hK _ _ _ h⟩⟩
theorem z721 (P:Program) (rl:List Nat) (o:Oper) (s:St) (R:Eff→Option Nat→List Nat→Prop):guardRunA P rl (.d (.bool false)) true o s R=R ⟨.void,none⟩ none []:=by
 apply propext
 exact⟨fun h=>(h R (fun _ _ _ h=>h)).2 rfl,fun h K' hK=>⟨fun e=>(by cases e),fun _=>hK _ _ _ h⟩⟩
theorem z429 (P:Program) (rl:List Nat) (want:Bool) (o:Oper) (s:St) (R:Eff→Option Nat→List Nat→Prop):guardRunA P rl .void want o s R=R ⟨.void,none⟩ none []:=by
 apply propext
 exact⟨fun h=>h R (fun _ _ _ h=>h),fun h K' hK=>hK _ _ _ h⟩
def contA (P:Program) (rl:List Nat) (ops:Array Oper) (B0:List (Nat × List Nat)) (os:List Oper) (i:Nat) (acc:List KeyA) (s:St) (o:Oper) (K:St→Prop) (e:Eff) (k:Option Nat) (N:List Nat):Prop :=
 runA P rl ops B0 os (i + 1) ((i,e.name,N,k,lookRefs s ops o++e.v.refs,lookWhole s ops o,boxE e)::acc) (s.applyA o.dst e k) K
theorem z1139 (P:Program) (rl:List Nat) (ops:Array Oper) (B0:List (Nat × List Nat)) (i:Nat) (acc:List KeyA) (s:St) (K:St→Prop):runA P rl ops B0 [] i acc s K=(pairsA ops (inBoxes B0 acc.reverse) (masks ops.toList []) acc.reverse=true∧K s):=rfl
theorem z1055 (P:Program) (rl:List Nat) (ops:Array Oper) (B0:List (Nat × List Nat)) (o:Oper) (os:List Oper) (i:Nat) (acc:List KeyA) (x:AV) (t:List AV) (m:List (Option Blk)) (K:St→Prop):runA P rl ops B0 (o::os) i acc ⟨x::t,m⟩ K=(dstOk o=true∧match guardT ops o with
  | none=>False
  | some none=>effA P rl o ⟨x::t,m⟩ (contA P rl ops B0 os i acc ⟨x::t,m⟩ o K)
  | some (some (t',want))=>guardRunA P rl ((⟨x::t,m⟩:St).ev (.tmp t')) want o ⟨x::t,m⟩ (contA P rl ops B0 os i acc ⟨x::t,m⟩ o K)):=rfl
theorem z1001 (t:List AV):killT none t=t:=rfl
theorem z1000 (n:Nat) (t:List AV):killT (some n) t=t.map (AV.sub n fun _=>.undef):=rfl
theorem z1004 (m:List (Option Blk)):killM none m=m:=rfl
theorem z1003 (n:Nat) (m:List (Option Blk)):killM (some n) m=subMem n (fun _=>.undef) m:=rfl
theorem z1141 (dst:Option Tmp) (s:St) (r:Eff × Option Nat):relE [] dst s r=some r:=by cases dst <;> rfl
theorem z1142 (dst:Option Tmp):relB [] dst=false:=by cases dst <;> rfl
theorem z1058 (rl:List Nat) (d:Tmp):relB rl (some d)=rl.contains d:=rfl
attribute [go_sem] z1141 z1142 z1058 relE List.contains_nil
attribute [go_sem] List.contains_cons z1139 z1055 contA oldA z1236 appOf boxTab z1004 z1003 St.applyA z1001 z1000 z719 z722 z720 z721 z429
theorem CallR.made {P:Program} {st:St} {dst:Option Tmp} {g:FuncId} {xs:List AV} {ds:List DV} {r:AV} {m1:List Blk} (news:List Nat) (hf:FnG P g [] [] (ds.map AV.d) r m1) (hd:reifyAll st xs=some ds) (hn:news.Nodup) (hl:news.length=m1.length)
  (hnew:news.all st.fresh=true) (hx:AV.refsAll xs=[]):CallR P st dst g xs (({ st with m:=putM news (m1.map (Blk.mapN fun i=>news[i]?)) st.m }:St).put dst (r.mapN fun i=>news[i]?)):=by
 obtain⟨h1,h2⟩:=z15 hd
 have:=CallR.gen (dst:=dst) (st:=st) (xs:=xs) [] [] (ds.map AV.d) r m1 [] news [] [] hf (by simpa using hn) rfl (by simpa using hl) (by intro i b h;simp at h) (fun n hn=>z19 (List.all_eq_true.1 hnew n hn)) (by simpa using h1) (fun i x y hi hy=>by
  simp only [List.getElem?_map,Option.map_eq_some_iff] at hy
  obtain⟨d,hy,rfl⟩:=hy
  have h3:=h2 i d hy
  simp only [List.getElem?_map,Option.map_eq_some_iff] at h3
  obtain⟨x',hx',hr⟩:=h3
  rw [hi] at hx'
  cases hx'
  refine .inl ⟨d,rfl,hr,fun n hn=>?_⟩
  have:=z863 hx (List.mem_of_getElem? hi)
  rw [this] at hn
  cases hn) (by simp) (by intro n hn;simp at hn) (by intro i n h;simp at h) (.inl rfl)
 exact this
theorem z566 (l:List Nat) (st:St):Weak st (releaseAll l st):=by
 intro P base out μ tmps w h
 obtain⟨μ',h1,_,_,h2,_⟩:=z40 l st μ h
 exact⟨μ',h1,h2⟩
theorem z94 {P:Program} {rd:Option Nat} {n:Nat} {J:Env} {c:Code} {cs:List Code} {k:Option Nat} {st:St} {Q:Exit→Option Nat→St→Prop} (l:List Nat) (h:WalkL P rd n J (c::cs) k (releaseAll l st) Q):WalkL P rd n J (c::cs) k st Q :=
 z63 (z566 l st) h
theorem CallR.inPlace {P:Program} {st:St} {dst:Option Tmp} {g:FuncId} {xs:List AV} (n:Nat) {b0 b0' b1:Blk} {args:List AV} {r:AV} (hf:FnG P g [b0] [0] args r [b1]) (hn:st.m[n]?=some (some b0')) (hb:b0=b0'.mapN (inv [n])) (hla:xs.length=args.length)
  (ha:∀ (i:Nat) x y,xs[i]?=some x→args[i]?=some y→argG st [n] [] x y):CallR P st dst g xs (({ st with m:=st.m.set n (some (b1.mapN fun i=>[n][i]?)) }:St).put dst (r.mapN fun i=>[n][i]?)):=by
 have:=CallR.gen (dst:=dst) (st:=st) [b0] [0] args r [b1] [n] [] [] [] hf (by simp) rfl rfl (fun i b hi=>by
  cases i with
  | zero=>cases hi;exact⟨n,b0',rfl,hn,hb⟩
  | succ i=>simp at hi) (by simp) hla ha (by simp) (by intro n hn;simp at hn) (fun i k hi _=>by
  cases i with
  | zero=>simp
  | succ i=>simp at hi) (.inl rfl)
 exact this
end Go.Ab
/- Arrays of which the room is asked: full,or with room behind;and arrays with room that settle. -/
namespace Go.Ab
open Go.RowKit
def roomed (len:Nat):AV→AV
 | .own n=>.vc n len
 | .view n off k=>.view n off k
 | .elem n i o=>.elem n i o
 | _=>.undef
def fulled (e:TypeId) (z:Nat) (rows:List (List DV)):AV→AV
 | .own _=>.dfull rows
 | y=>snapLeaf (.arr e z rows) y
def settled (len:Nat):AV→AV
 | .vh n k=>if k=len then .own n else .undef
 | .view n off k=>if off + k≤len then .view n off k else .undef
 | .elem n i o=>.elem n i o
 | _=>.undef
def St.roomed (n:Nat) (st:St):St:=match (st.m[n]?:Option (Option Blk)) with
 | some (some (.arr e z rows))=>{ t:=st.t.map (AV.sub n (Ab.roomed rows.length)),m:=(subMem n (Ab.roomed rows.length) st.m).set n (some (.arrP e z rows)) }
 | _=>st
def St.fulled (n:Nat) (st:St):St:=match (st.m[n]?:Option (Option Blk)) with
 | some (some (.arr e z rows))=>{ t:=st.t.map (AV.sub n (Ab.fulled e z rows)),m:=subMem n (Ab.fulled e z rows) (st.m.set n none) }
 | _=>st
def St.settle (n:Nat) (st:St):St:=match (st.m[n]?:Option (Option Blk)) with
 | some (some (.arrP e z rows))=>{ t:=st.t.map (AV.sub n (settled rows.length)),m:=(subMem n (settled rows.length) st.m).set n (some (.arr e z rows)) }
 | _=>st
section
variable {P:Program} {base:Own} {out:Own} {st st':St} {μ:Pl} {tmps:Array Value} {w w':World}
end
attribute [go_sem] St.roomed St.fulled St.settle roomed fulled settled opSlice3
end Go.Ab
/- The program's type table,as the engine asks for it. -/
namespace Go.Ab
open Go.RowKit Go.Proofs
theorem z1043:tsz Tryd.prog 0=(some 1):=by kernel_rfl
theorem z627:tbytes Tryd.prog 0=(some 0):=by kernel_rfl
theorem z978:tagg Tryd.prog 0=(some false):=by kernel_rfl
theorem z1042:tsz Tryd.prog 1=(some 1):=by kernel_rfl
theorem z626:tbytes Tryd.prog 1=(some 8):=by kernel_rfl
theorem z977:tagg Tryd.prog 1=(some false):=by kernel_rfl
theorem z1041:tsz Tryd.prog 2=(some 1):=by kernel_rfl
theorem z625:tbytes Tryd.prog 2=(some 8):=by kernel_rfl
theorem z976:tagg Tryd.prog 2=(some false):=by kernel_rfl
theorem z965:tint Tryd.prog 2=(some IntKind.i64):=by kernel_rfl
theorem z1040:tsz Tryd.prog 3=(some 1):=by kernel_rfl
theorem z624:tbytes Tryd.prog 3=(some 8):=by kernel_rfl
theorem z975:tagg Tryd.prog 3=(some false):=by kernel_rfl
theorem z964:tint Tryd.prog 3=(some IntKind.i64):=by kernel_rfl
theorem z1039:tsz Tryd.prog 4=(some 1):=by kernel_rfl
theorem z623:tbytes Tryd.prog 4=(some 1):=by kernel_rfl
theorem z974:tagg Tryd.prog 4=(some false):=by kernel_rfl
theorem z1038:tsz Tryd.prog 5=(some 1):=by kernel_rfl
theorem z622:tbytes Tryd.prog 5=(some 1):=by kernel_rfl
theorem z973:tagg Tryd.prog 5=(some false):=by kernel_rfl
theorem z963:tint Tryd.prog 5=(some IntKind.u8):=by kernel_rfl
theorem z1037:tsz Tryd.prog 9=(some 1):=by kernel_rfl
theorem z621:tbytes Tryd.prog 9=(some 16):=by kernel_rfl
theorem z972:tagg Tryd.prog 9=(some false):=by kernel_rfl
theorem z962:tsz Tryd.prog 17=(some 1):=by kernel_rfl
theorem z529:tbytes Tryd.prog 17=(some 8):=by kernel_rfl
theorem z851:tagg Tryd.prog 17=(some false):=by kernel_rfl
theorem z961:tsz Tryd.prog 22=(some 1):=by kernel_rfl
theorem z528:tbytes Tryd.prog 22=(some 24):=by kernel_rfl
theorem z850:tagg Tryd.prog 22=(some false):=by kernel_rfl
theorem z501:tslice Tryd.prog 22=(some 52):=by kernel_rfl
theorem z960:tsz Tryd.prog 24=(some 2):=by kernel_rfl
theorem z527:tbytes Tryd.prog 24=(some 32):=by kernel_rfl
theorem z849:tagg Tryd.prog 24=(some true):=by kernel_rfl
theorem z378:tfields Tryd.prog 24=(some [(0,(1,false)),(1,(1,false))]):=by kernel_rfl
theorem z959:tsz Tryd.prog 26=(some 2):=by kernel_rfl
theorem z526:tbytes Tryd.prog 26=(some 16):=by kernel_rfl
theorem z848:tagg Tryd.prog 26=(some true):=by kernel_rfl
theorem z377:tfields Tryd.prog 26=(some [(0,(1,false)),(1,(1,false))]):=by kernel_rfl
theorem z971:teq Tryd.prog 26=(some [(0,false),(1,false)]):=by kernel_rfl
theorem z958:tsz Tryd.prog 28=(some 4):=by kernel_rfl
theorem z525:tbytes Tryd.prog 28=(some 32):=by kernel_rfl
theorem z847:tagg Tryd.prog 28=(some true):=by kernel_rfl
theorem z376:tfields Tryd.prog 28=(some [(0,(1,false)),(1,(1,false)),(2,(2,true))]):=by kernel_rfl
theorem z970:teq Tryd.prog 28=(some [(0,false),(1,false),(2,false),(3,false)]):=by kernel_rfl
theorem z957:tsz Tryd.prog 29=(some 1):=by kernel_rfl
theorem z524:tbytes Tryd.prog 29=(some 24):=by kernel_rfl
theorem z846:tagg Tryd.prog 29=(some false):=by kernel_rfl
theorem z500:tslice Tryd.prog 29=(some 44):=by kernel_rfl
theorem z956:tsz Tryd.prog 31=(some 9):=by kernel_rfl
theorem z523:tbytes Tryd.prog 31=(some 88):=by kernel_rfl
theorem z845:tagg Tryd.prog 31=(some true):=by kernel_rfl
theorem z375:tfields Tryd.prog 31=(some [(0,(4,true)),(4,(1,false)),(5,(1,false)),(6,(1,false)),(7,(1,false)),(8,(1,false))]):=by kernel_rfl
theorem z955:tsz Tryd.prog 32=(some 1):=by kernel_rfl
theorem z522:tbytes Tryd.prog 32=(some 24):=by kernel_rfl
theorem z844:tagg Tryd.prog 32=(some false):=by kernel_rfl
theorem z499:tslice Tryd.prog 32=(some 41):=by kernel_rfl
theorem z954:tsz Tryd.prog 36=(some 1):=by kernel_rfl
theorem z521:tbytes Tryd.prog 36=(some 24):=by kernel_rfl
theorem z843:tagg Tryd.prog 36=(some false):=by kernel_rfl
theorem z498:tslice Tryd.prog 36=(some 3):=by kernel_rfl
theorem z953:tsz Tryd.prog 37=(some 1):=by kernel_rfl
theorem z520:tbytes Tryd.prog 37=(some 8):=by kernel_rfl
theorem z842:tagg Tryd.prog 37=(some false):=by kernel_rfl
theorem z823:tint Tryd.prog 37=(some IntKind.i64):=by kernel_rfl
theorem z952:tsz Tryd.prog 40=(some 4):=by kernel_rfl
theorem z519:tbytes Tryd.prog 40=(some 32):=by kernel_rfl
theorem z841:tagg Tryd.prog 40=(some true):=by kernel_rfl
theorem z374:tfields Tryd.prog 40=(some [(0,(1,false)),(1,(1,false)),(2,(1,false)),(3,(1,false))]):=by kernel_rfl
theorem z969:teq Tryd.prog 40=(some [(0,false),(1,false),(2,false),(3,false)]):=by kernel_rfl
theorem z951:tsz Tryd.prog 41=(some 4):=by kernel_rfl
theorem z518:tbytes Tryd.prog 41=(some 32):=by kernel_rfl
theorem z840:tagg Tryd.prog 41=(some true):=by kernel_rfl
theorem z373:tfields Tryd.prog 41=(some [(0,(1,false)),(1,(1,false)),(2,(1,false)),(3,(1,false))]):=by kernel_rfl
theorem z968:teq Tryd.prog 41=(some [(0,false),(1,false),(2,false),(3,false)]):=by kernel_rfl
theorem z950:tsz Tryd.prog 42=(some 1):=by kernel_rfl
theorem z517:tbytes Tryd.prog 42=(some 8):=by kernel_rfl
theorem z839:tagg Tryd.prog 42=(some false):=by kernel_rfl
theorem z949:tsz Tryd.prog 44=(some 3):=by kernel_rfl
theorem z516:tbytes Tryd.prog 44=(some 24):=by kernel_rfl
theorem z838:tagg Tryd.prog 44=(some true):=by kernel_rfl
theorem z372:tfields Tryd.prog 44=(some [(0,(1,false)),(1,(1,false)),(2,(1,false))]):=by kernel_rfl
theorem z967:teq Tryd.prog 44=(some [(0,false),(1,false),(2,true)]):=by kernel_rfl
theorem z948:tsz Tryd.prog 50=(some 1):=by kernel_rfl
theorem z515:tbytes Tryd.prog 50=(some 24):=by kernel_rfl
theorem z837:tagg Tryd.prog 50=(some false):=by kernel_rfl
theorem z497:tslice Tryd.prog 50=(some 26):=by kernel_rfl
theorem z947:tsz Tryd.prog 52=(some 8):=by kernel_rfl
theorem z514:tbytes Tryd.prog 52=(some 80):=by kernel_rfl
theorem z836:tagg Tryd.prog 52=(some true):=by kernel_rfl
theorem z371:tfields Tryd.prog 52=(some [(0,(1,false)),(1,(1,false)),(2,(1,false)),(3,(2,true)),(5,(2,true)),(7,(1,false))]):=by kernel_rfl
theorem z946:tsz Tryd.prog 54=(some 1):=by kernel_rfl
theorem z513:tbytes Tryd.prog 54=(some 24):=by kernel_rfl
theorem z835:tagg Tryd.prog 54=(some false):=by kernel_rfl
theorem z496:tslice Tryd.prog 54=(some 59):=by kernel_rfl
theorem z945:tsz Tryd.prog 59=(some 3):=by kernel_rfl
theorem z512:tbytes Tryd.prog 59=(some 24):=by kernel_rfl
theorem z834:tagg Tryd.prog 59=(some true):=by kernel_rfl
theorem z370:tfields Tryd.prog 59=(some [(0,(1,false)),(1,(1,false)),(2,(1,false))]):=by kernel_rfl
theorem z966:teq Tryd.prog 59=(some [(0,false),(1,false),(2,false)]):=by kernel_rfl
theorem z944:tsz Tryd.prog 64=(some 1):=by kernel_rfl
theorem z511:tbytes Tryd.prog 64=(some 8):=by kernel_rfl
theorem z833:tagg Tryd.prog 64=(some false):=by kernel_rfl
theorem z943:tsz Tryd.prog 80=(some 1):=by kernel_rfl
theorem z510:tbytes Tryd.prog 80=(some 8):=by kernel_rfl
theorem z832:tagg Tryd.prog 80=(some false):=by kernel_rfl
theorem z942:tsz Tryd.prog 84=(some 1):=by kernel_rfl
theorem z509:tbytes Tryd.prog 84=(some 24):=by kernel_rfl
theorem z831:tagg Tryd.prog 84=(some false):=by kernel_rfl
theorem z495:tslice Tryd.prog 84=(some 36):=by kernel_rfl
theorem z941:tsz Tryd.prog 97=(some 1):=by kernel_rfl
theorem z508:tbytes Tryd.prog 97=(some 8):=by kernel_rfl
theorem z830:tagg Tryd.prog 97=(some false):=by kernel_rfl
theorem z940:tsz Tryd.prog 98=(some 1):=by kernel_rfl
theorem z507:tbytes Tryd.prog 98=(some 0):=by kernel_rfl
theorem z829:tagg Tryd.prog 98=(some false):=by kernel_rfl
theorem z939:tsz Tryd.prog 99=(some 1):=by kernel_rfl
theorem z506:tbytes Tryd.prog 99=(some 8):=by kernel_rfl
theorem z828:tagg Tryd.prog 99=(some false):=by kernel_rfl
theorem z822:tsz Tryd.prog 101=(some 1):=by kernel_rfl
theorem z418:tbytes Tryd.prog 101=(some 8):=by kernel_rfl
theorem z669:tagg Tryd.prog 101=(some false):=by kernel_rfl
theorem z821:tsz Tryd.prog 102=(some 1):=by kernel_rfl
theorem z417:tbytes Tryd.prog 102=(some 8):=by kernel_rfl
theorem z668:tagg Tryd.prog 102=(some false):=by kernel_rfl
theorem z820:tsz Tryd.prog 103=(some 1):=by kernel_rfl
theorem z416:tbytes Tryd.prog 103=(some 8):=by kernel_rfl
theorem z667:tagg Tryd.prog 103=(some false):=by kernel_rfl
theorem z819:tsz Tryd.prog 104=(some 1):=by kernel_rfl
theorem z415:tbytes Tryd.prog 104=(some 8):=by kernel_rfl
theorem z666:tagg Tryd.prog 104=(some false):=by kernel_rfl
theorem z818:tsz Tryd.prog 105=(some 1):=by kernel_rfl
theorem z414:tbytes Tryd.prog 105=(some 0):=by kernel_rfl
theorem z665:tagg Tryd.prog 105=(some false):=by kernel_rfl
theorem z817:tsz Tryd.prog 107=(some 1):=by kernel_rfl
theorem z413:tbytes Tryd.prog 107=(some 8):=by kernel_rfl
theorem z664:tagg Tryd.prog 107=(some false):=by kernel_rfl
theorem z816:tsz Tryd.prog 108=(some 1):=by kernel_rfl
theorem z412:tbytes Tryd.prog 108=(some 0):=by kernel_rfl
theorem z663:tagg Tryd.prog 108=(some false):=by kernel_rfl
theorem z815:tsz Tryd.prog 110=(some 1):=by kernel_rfl
theorem z411:tbytes Tryd.prog 110=(some 8):=by kernel_rfl
theorem z662:tagg Tryd.prog 110=(some false):=by kernel_rfl
theorem z814:tsz Tryd.prog 111=(some 1):=by kernel_rfl
theorem z410:tbytes Tryd.prog 111=(some 8):=by kernel_rfl
theorem z661:tagg Tryd.prog 111=(some false):=by kernel_rfl
theorem z813:tsz Tryd.prog 114=(some 2):=by kernel_rfl
theorem z409:tbytes Tryd.prog 114=(some 16):=by kernel_rfl
theorem z660:tagg Tryd.prog 114=(some true):=by kernel_rfl
theorem z320:tfields Tryd.prog 114=(some [(0,(1,false)),(1,(1,false))]):=by kernel_rfl
theorem z827:teq Tryd.prog 114=(some [(0,false),(1,false)]):=by kernel_rfl
theorem z812:tsz Tryd.prog 115=(some 4):=by kernel_rfl
theorem z408:tbytes Tryd.prog 115=(some 32):=by kernel_rfl
theorem z659:tagg Tryd.prog 115=(some true):=by kernel_rfl
theorem z319:tfields Tryd.prog 115=(some [(0,(2,true)),(2,(1,false)),(3,(1,false))]):=by kernel_rfl
theorem z826:teq Tryd.prog 115=(some [(0,false),(1,false),(2,false),(3,false)]):=by kernel_rfl
theorem z811:tsz Tryd.prog 116=(some 4):=by kernel_rfl
theorem z407:tbytes Tryd.prog 116=(some 32):=by kernel_rfl
theorem z658:tagg Tryd.prog 116=(some true):=by kernel_rfl
theorem z318:tfields Tryd.prog 116=(some [(0,(2,true)),(2,(1,false)),(3,(1,false))]):=by kernel_rfl
theorem z825:teq Tryd.prog 116=(some [(0,false),(1,false),(2,false),(3,false)]):=by kernel_rfl
theorem z810:tsz Tryd.prog 117=(some 1):=by kernel_rfl
theorem z406:tbytes Tryd.prog 117=(some 8):=by kernel_rfl
theorem z657:tagg Tryd.prog 117=(some false):=by kernel_rfl
theorem z809:tsz Tryd.prog 118=(some 1):=by kernel_rfl
theorem z405:tbytes Tryd.prog 118=(some 8):=by kernel_rfl
theorem z656:tagg Tryd.prog 118=(some false):=by kernel_rfl
theorem z808:tsz Tryd.prog 119=(some 1):=by kernel_rfl
theorem z404:tbytes Tryd.prog 119=(some 8):=by kernel_rfl
theorem z655:tagg Tryd.prog 119=(some false):=by kernel_rfl
theorem z807:tsz Tryd.prog 120=(some 1):=by kernel_rfl
theorem z403:tbytes Tryd.prog 120=(some 0):=by kernel_rfl
theorem z654:tagg Tryd.prog 120=(some false):=by kernel_rfl
theorem z806:tsz Tryd.prog 122=(some 1):=by kernel_rfl
theorem z402:tbytes Tryd.prog 122=(some 8):=by kernel_rfl
theorem z653:tagg Tryd.prog 122=(some false):=by kernel_rfl
theorem z505:tmapK Tryd.prog 122=(some ((some [IntKind.i64,IntKind.u64]),181)):=by kernel_rfl
theorem z805:tsz Tryd.prog 124=(some 2):=by kernel_rfl
theorem z401:tbytes Tryd.prog 124=(some 16):=by kernel_rfl
theorem z652:tagg Tryd.prog 124=(some true):=by kernel_rfl
theorem z317:tfields Tryd.prog 124=(some [(0,(1,false)),(1,(1,false))]):=by kernel_rfl
theorem z804:tsz Tryd.prog 127=(some 1):=by kernel_rfl
theorem z400:tbytes Tryd.prog 127=(some 8):=by kernel_rfl
theorem z651:tagg Tryd.prog 127=(some false):=by kernel_rfl
theorem z620:tint Tryd.prog 127=(some IntKind.u64):=by kernel_rfl
theorem z803:tsz Tryd.prog 132=(some 1):=by kernel_rfl
theorem z399:tbytes Tryd.prog 132=(some 8):=by kernel_rfl
theorem z650:tagg Tryd.prog 132=(some false):=by kernel_rfl
theorem z504:tmapK Tryd.prog 132=(some (none,26)):=by kernel_rfl
theorem z802:tsz Tryd.prog 134=(some 3):=by kernel_rfl
theorem z398:tbytes Tryd.prog 134=(some 40):=by kernel_rfl
theorem z649:tagg Tryd.prog 134=(some true):=by kernel_rfl
theorem z316:tfields Tryd.prog 134=(some [(0,(2,true)),(2,(1,false))]):=by kernel_rfl
theorem z801:tsz Tryd.prog 139=(some 6):=by kernel_rfl
theorem z397:tbytes Tryd.prog 139=(some 64):=by kernel_rfl
theorem z648:tagg Tryd.prog 139=(some true):=by kernel_rfl
theorem z315:tfields Tryd.prog 139=(some [(0,(2,true)),(2,(4,true))]):=by kernel_rfl
theorem z800:tsz Tryd.prog 144=(some 12):=by kernel_rfl
theorem z396:tbytes Tryd.prog 144=(some 128):=by kernel_rfl
theorem z647:tagg Tryd.prog 144=(some true):=by kernel_rfl
theorem z314:tfields Tryd.prog 144=(some [(0,(3,true)),(3,(9,true))]):=by kernel_rfl
theorem z799:tsz Tryd.prog 145=(some 1):=by kernel_rfl
theorem z395:tbytes Tryd.prog 145=(some 8):=by kernel_rfl
theorem z646:tagg Tryd.prog 145=(some false):=by kernel_rfl
theorem z503:tmapK Tryd.prog 145=(some ((some [IntKind.i64,IntKind.i64]),116)):=by kernel_rfl
theorem z798:tsz Tryd.prog 146=(some 1):=by kernel_rfl
theorem z394:tbytes Tryd.prog 146=(some 24):=by kernel_rfl
theorem z645:tagg Tryd.prog 146=(some false):=by kernel_rfl
theorem z369:tslice Tryd.prog 146=(some 114):=by kernel_rfl
theorem z797:tsz Tryd.prog 148=(some 3):=by kernel_rfl
theorem z393:tbytes Tryd.prog 148=(some 40):=by kernel_rfl
theorem z644:tagg Tryd.prog 148=(some true):=by kernel_rfl
theorem z313:tfields Tryd.prog 148=(some [(0,(1,false)),(1,(1,false)),(2,(1,false))]):=by kernel_rfl
theorem z796:tsz Tryd.prog 155=(some 2):=by kernel_rfl
theorem z392:tbytes Tryd.prog 155=(some 16):=by kernel_rfl
theorem z643:tagg Tryd.prog 155=(some true):=by kernel_rfl
theorem z312:tfields Tryd.prog 155=(some [(0,(1,false)),(1,(1,false))]):=by kernel_rfl
theorem z824:teq Tryd.prog 155=(some [(0,false),(1,false)]):=by kernel_rfl
theorem z795:tsz Tryd.prog 167=(some 1):=by kernel_rfl
theorem z391:tbytes Tryd.prog 167=(some 8):=by kernel_rfl
theorem z642:tagg Tryd.prog 167=(some false):=by kernel_rfl
theorem z794:tsz Tryd.prog 170=(some 1):=by kernel_rfl
theorem z390:tbytes Tryd.prog 170=(some 8):=by kernel_rfl
theorem z641:tagg Tryd.prog 170=(some false):=by kernel_rfl
theorem z502:tmapK Tryd.prog 170=(some ((some [IntKind.i64,IntKind.i64]),3)):=by kernel_rfl
theorem z793:tsz Tryd.prog 175=(some 1):=by kernel_rfl
theorem z389:tbytes Tryd.prog 175=(some 8):=by kernel_rfl
theorem z640:tagg Tryd.prog 175=(some false):=by kernel_rfl
theorem z792:tsz Tryd.prog 176=(some 1):=by kernel_rfl
theorem z388:tbytes Tryd.prog 176=(some 8):=by kernel_rfl
theorem z639:tagg Tryd.prog 176=(some false):=by kernel_rfl
theorem z791:tsz Tryd.prog 180=(some 5):=by kernel_rfl
theorem z387:tbytes Tryd.prog 180=(some 88):=by kernel_rfl
theorem z638:tagg Tryd.prog 180=(some true):=by kernel_rfl
theorem z311:tfields Tryd.prog 180=(some [(0,(3,true)),(3,(1,false)),(4,(1,false))]):=by kernel_rfl
theorem z790:tsz Tryd.prog 181=(some 2):=by kernel_rfl
theorem z386:tbytes Tryd.prog 181=(some 16):=by kernel_rfl
theorem z637:tagg Tryd.prog 181=(some true):=by kernel_rfl
theorem z629:tarr Tryd.prog 181=(some 2):=by kernel_rfl
theorem z531:tslice Tryd.prog 181=none:=by kernel_rfl
theorem z789:tsz Tryd.prog 196=(some 1):=by kernel_rfl
theorem z385:tbytes Tryd.prog 196=(some 8):=by kernel_rfl
theorem z636:tagg Tryd.prog 196=(some false):=by kernel_rfl
theorem z788:tsz Tryd.prog 198=(some 1):=by kernel_rfl
theorem z384:tbytes Tryd.prog 198=(some 8):=by kernel_rfl
theorem z635:tagg Tryd.prog 198=(some false):=by kernel_rfl
theorem z787:tsz Tryd.prog 202=(some 2):=by kernel_rfl
theorem z383:tbytes Tryd.prog 202=(some 48):=by kernel_rfl
theorem z634:tagg Tryd.prog 202=(some true):=by kernel_rfl
theorem z310:tfields Tryd.prog 202=(some [(0,(1,false)),(1,(1,false))]):=by kernel_rfl
theorem z786:tsz Tryd.prog 204=(some 1):=by kernel_rfl
theorem z382:tbytes Tryd.prog 204=(some 8):=by kernel_rfl
theorem z633:tagg Tryd.prog 204=(some false):=by kernel_rfl
theorem z785:tsz Tryd.prog 208=(some 1):=by kernel_rfl
theorem z381:tbytes Tryd.prog 208=(some 4):=by kernel_rfl
theorem z632:tagg Tryd.prog 208=(some false):=by kernel_rfl
theorem z619:tint Tryd.prog 208=(some IntKind.u32):=by kernel_rfl
theorem z784:tsz Tryd.prog 210=(some 1):=by kernel_rfl
theorem z380:tbytes Tryd.prog 210=(some 8):=by kernel_rfl
theorem z631:tagg Tryd.prog 210=(some false):=by kernel_rfl
theorem z618:tint Tryd.prog 210=(some IntKind.u64):=by kernel_rfl
theorem z783:tsz Tryd.prog 221=(some 64):=by kernel_rfl
theorem z379:tbytes Tryd.prog 221=(some 64):=by kernel_rfl
theorem z630:tagg Tryd.prog 221=(some true):=by kernel_rfl
theorem z628:tarr Tryd.prog 221=(some 64):=by kernel_rfl
theorem z530:tslice Tryd.prog 221=none:=by kernel_rfl
theorem z938:tzero Tryd.prog 1=some Value.nilFunc:=by kernel_rfl
theorem z937:tzero Tryd.prog 2=some (Value.int IntKind.i64 0):=by kernel_rfl
theorem z936:tzero Tryd.prog 3=some (Value.int IntKind.i64 0):=by kernel_rfl
theorem z935:tzero Tryd.prog 4=some (Value.bool false):=by kernel_rfl
theorem z934:tzero Tryd.prog 5=some (Value.int IntKind.u8 0):=by kernel_rfl
theorem z782:tzero Tryd.prog 17=some (Value.pointer none):=by kernel_rfl
theorem z781:tzero Tryd.prog 22=some (Value.slice none 0 0):=by kernel_rfl
theorem z780:tzero Tryd.prog 24=some (Value.agg #[Value.int IntKind.i64 0,Value.slice none 0 0]):=by kernel_rfl
theorem z779:tzero Tryd.prog 26=some (Value.agg #[Value.int IntKind.i64 0,Value.int IntKind.i64 0]):=by kernel_rfl
theorem z778:tzero Tryd.prog 28=some (Value.agg #[Value.int IntKind.i64 0,Value.int IntKind.i64 0,Value.int IntKind.i64 0,Value.int IntKind.i64 0]):=by kernel_rfl
theorem z777:tzero Tryd.prog 29=some (Value.slice none 0 0):=by kernel_rfl
theorem z776:tzero Tryd.prog 31=some (Value.agg #[Value.int IntKind.i64 0,Value.int IntKind.i64 0,Value.int IntKind.i64 0,Value.int IntKind.i64 0,Value.int IntKind.i64 0,Value.int IntKind.i64 0,Value.int IntKind.i64 0,Value.int IntKind.i64 0,Value.slice none 0 0]):=by kernel_rfl
theorem z775:tzero Tryd.prog 32=some (Value.slice none 0 0):=by kernel_rfl
theorem z774:tzero Tryd.prog 36=some (Value.slice none 0 0):=by kernel_rfl
theorem z773:tzero Tryd.prog 37=some (Value.int IntKind.i64 0):=by kernel_rfl
theorem z772:tzero Tryd.prog 40=some (Value.agg #[Value.int IntKind.i64 0,Value.int IntKind.i64 0,Value.int IntKind.i64 0,Value.int IntKind.i64 0]):=by kernel_rfl
theorem z771:tzero Tryd.prog 41=some (Value.agg #[Value.int IntKind.i64 0,Value.int IntKind.i64 0,Value.int IntKind.i64 0,Value.int IntKind.i64 0]):=by kernel_rfl
theorem z770:tzero Tryd.prog 42=some Value.nilFunc:=by kernel_rfl
theorem z769:tzero Tryd.prog 44=some (Value.agg #[Value.int IntKind.i64 0,Value.int IntKind.i64 0,Value.bool false]):=by kernel_rfl
theorem z768:tzero Tryd.prog 50=some (Value.slice none 0 0):=by kernel_rfl
theorem z767:tzero Tryd.prog 52=some (Value.agg #[Value.int IntKind.i64 0,Value.int IntKind.i64 0,Value.int IntKind.i64 0,Value.int IntKind.i64 0,Value.int IntKind.i64 0,Value.int IntKind.i64 0,Value.int IntKind.i64 0,Value.slice none 0 0]):=by kernel_rfl
theorem z766:tzero Tryd.prog 54=some (Value.slice none 0 0):=by kernel_rfl
theorem z765:tzero Tryd.prog 59=some (Value.agg #[Value.int IntKind.i64 0,Value.int IntKind.i64 0,Value.int IntKind.i64 0]):=by kernel_rfl
theorem z764:tzero Tryd.prog 64=some Value.nilFunc:=by kernel_rfl
theorem z763:tzero Tryd.prog 80=some Value.nilFunc:=by kernel_rfl
theorem z762:tzero Tryd.prog 84=some (Value.slice none 0 0):=by kernel_rfl
theorem z761:tzero Tryd.prog 97=some Value.nilFunc:=by kernel_rfl
theorem z760:tzero Tryd.prog 99=some Value.nilFunc:=by kernel_rfl
theorem z617:tzero Tryd.prog 101=some Value.nilFunc:=by kernel_rfl
theorem z616:tzero Tryd.prog 102=some Value.nilFunc:=by kernel_rfl
theorem z615:tzero Tryd.prog 103=some Value.nilFunc:=by kernel_rfl
theorem z614:tzero Tryd.prog 104=some Value.nilFunc:=by kernel_rfl
theorem z613:tzero Tryd.prog 107=some (Value.pointer none):=by kernel_rfl
theorem z612:tzero Tryd.prog 110=some Value.nilFunc:=by kernel_rfl
theorem z611:tzero Tryd.prog 111=some (Value.pointer none):=by kernel_rfl
theorem z610:tzero Tryd.prog 114=some (Value.agg #[Value.int IntKind.i64 0,Value.int IntKind.i64 0]):=by kernel_rfl
theorem z609:tzero Tryd.prog 115=some (Value.agg #[Value.int IntKind.i64 0,Value.int IntKind.i64 0,Value.int IntKind.i64 0,Value.int IntKind.i64 0]):=by kernel_rfl
theorem z608:tzero Tryd.prog 116=some (Value.agg #[Value.int IntKind.i64 0,Value.int IntKind.i64 0,Value.int IntKind.i64 0,Value.int IntKind.i64 0]):=by kernel_rfl
theorem z607:tzero Tryd.prog 117=some Value.nilFunc:=by kernel_rfl
theorem z606:tzero Tryd.prog 118=some Value.nilFunc:=by kernel_rfl
theorem z605:tzero Tryd.prog 119=some (Value.pointer none):=by kernel_rfl
theorem z604:tzero Tryd.prog 122=some (Value.map none):=by kernel_rfl
theorem z603:tzero Tryd.prog 124=some (Value.agg #[Value.pointer none,Value.map none]):=by kernel_rfl
theorem z602:tzero Tryd.prog 127=some (Value.int IntKind.u64 0):=by kernel_rfl
theorem z601:tzero Tryd.prog 132=some (Value.map none):=by kernel_rfl
theorem z600:tzero Tryd.prog 134=some (Value.agg #[Value.int IntKind.i64 0,Value.slice none 0 0,Value.map none]):=by kernel_rfl
theorem z599:tzero Tryd.prog 139=some (Value.agg #[Value.int IntKind.i64 0,Value.slice none 0 0,Value.int IntKind.i64 0,Value.int IntKind.i64 0,Value.int IntKind.i64 0,Value.int IntKind.i64 0]):=by kernel_rfl
theorem z598:tzero Tryd.prog 144=some (Value.agg #[Value.int IntKind.i64 0,Value.slice none 0 0,Value.map none,Value.int IntKind.i64 0,Value.int IntKind.i64 0,Value.int IntKind.i64 0,Value.int IntKind.i64 0,Value.int IntKind.i64 0,Value.int IntKind.i64 0,Value.int IntKind.i64 0,Value.int IntKind.i64 0,Value.slice none 0 0]):=by kernel_rfl
theorem z597:tzero Tryd.prog 145=some (Value.map none):=by kernel_rfl
theorem z596:tzero Tryd.prog 146=some (Value.slice none 0 0):=by kernel_rfl
theorem z595:tzero Tryd.prog 148=some (Value.agg #[Value.pointer none,Value.map none,Value.slice none 0 0]):=by kernel_rfl
theorem z594:tzero Tryd.prog 155=some (Value.agg #[Value.int IntKind.i64 0,Value.int IntKind.u64 0]):=by kernel_rfl
theorem z593:tzero Tryd.prog 167=some Value.nilFunc:=by kernel_rfl
theorem z592:tzero Tryd.prog 170=some (Value.map none):=by kernel_rfl
theorem z591:tzero Tryd.prog 175=some Value.nilFunc:=by kernel_rfl
theorem z590:tzero Tryd.prog 176=some Value.nilFunc:=by kernel_rfl
theorem z589:tzero Tryd.prog 180=some (Value.agg #[Value.int IntKind.i64 0,Value.slice none 0 0,Value.map none,Value.slice none 0 0,Value.slice none 0 0]):=by kernel_rfl
theorem z588:tzero Tryd.prog 181=some (Value.agg #[Value.int IntKind.i64 0,Value.int IntKind.i64 0]):=by kernel_rfl
theorem z587:tzero Tryd.prog 196=some Value.nilFunc:=by kernel_rfl
theorem z586:tzero Tryd.prog 198=some Value.nilFunc:=by kernel_rfl
theorem z585:tzero Tryd.prog 202=some (Value.agg #[Value.slice none 0 0,Value.slice none 0 0]):=by kernel_rfl
theorem z584:tzero Tryd.prog 204=some Value.nilFunc:=by kernel_rfl
theorem z583:tzero Tryd.prog 208=some (Value.int IntKind.u32 0):=by kernel_rfl
theorem z582:tzero Tryd.prog 210=some (Value.int IntKind.u64 0):=by kernel_rfl
attribute [go_sem] z1043 z627 z978 z1042 z626 z977 z1041 z625 z976 z965 z1040 z624 z975 z964 z1039 z623 z974 z1038 z622 z973 z963 z1037 z621 z972 z962 z529 z851 z961 z528 z850 z501 z960 z527 z849 z378 z959 z526 z848 z377 z971 z958 z525 z847 z376 z970 z957 z524 z846 z500 z956 z523 z845 z375 z955 z522 z844 z499 z954 z521 z843 z498 z953 z520 z842 z823 z952 z519 z841 z374 z969 z951 z518 z840 z373 z968 z950 z517 z839 z949 z516 z838 z372 z967 z948 z515 z837 z497 z947 z514 z836 z371 z946 z513 z835 z496 z945 z512 z834 z370 z966 z944 z511 z833 z943 z510 z832 z942 z509 z831 z495 z941 z508 z830 z940 z507 z829 z939 z506 z828 z822 z418 z669 z821 z417 z668 z820 z416 z667 z819 z415 z666 z818 z414 z665 z817 z413 z664 z816 z412 z663 z815 z411 z662 z814 z410 z661 z813 z409 z660 z320 z827 z812 z408 z659 z319 z826 z811 z407 z658 z318 z825 z810 z406 z657 z809 z405 z656 z808 z404 z655 z807 z403 z654 z806 z402 z653 z505 z805 z401 z652 z317 z804 z400 z651 z620 z803 z399 z650 z504 z802 z398 z649 z316 z801 z397 z648 z315 z800 z396 z647 z314 z799 z395 z646 z503 z798 z394 z645 z369 z797 z393 z644 z313 z796 z392 z643 z312 z824 z795 z391 z642 z794 z390 z641 z502 z793 z389 z640 z792 z388 z639 z791 z387 z638 z311 z790 z386 z637 z629 z531 z789 z385 z636 z788 z384 z635 z787 z383 z634 z310 z786 z382 z633 z785 z381 z632 z619 z784 z380 z631 z618 z783 z379 z630 z628 z530 z938 z937 z936 z935 z934 z782 z781 z780 z779 z778 z777 z776 z775 z774 z773 z772 z771 z770 z769 z768 z767 z766 z765 z764 z763 z762 z761 z760 z617 z616 z615 z614 z613 z612 z611 z610 z609 z608 z607 z606 z605 z604 z603 z602 z601 z600 z599 z598 z597 z596 z595 z594 z593 z592 z591 z590 z589 z588 z587 z586 z585 z584 z583 z582 Tryd.underlying2 Tryd.underlying3 Tryd.underlying4 Tryd.underlying5 Tryd.underlying17 Tryd.underlying37 Tryd.underlying107 Tryd.underlying111 Tryd.underlying119 Tryd.underlying127 Tryd.underlying208 Tryd.underlying210
theorem weA {st st':St} (h1:lessT [] st.t st'.t) (h2:lessM [] 0 st.m st'.m) (h3:st'.t.all (liveB st'.m)=true:=by rfl) (h4:liveM st'.m st'.m=true:=by rfl):Weak st st':=z56 [] h1 h2 h3 h4
attribute [simp] lessT lessM lessB AV.less
end Go.Ab
namespace Go.Ab
open Go.RowKit Go.Proofs
structure Span where
 lo:Int
 hi:Int
structure Path where
 frm:Int
 to:Int
 grade:Int
 time:Span
 snow:Span
 opens:List Span
structure Net where
 places:Int
 paths:List Path
structure Party where
 grade:Int
 load:Int
 pace:Span
def Span.row (s:Span):List DV:=[.i s.lo,.i s.hi]
def Path.row (p:Path):List DV:=[.i p.frm,.i p.to,.i p.grade,.i p.time.lo,.i p.time.hi,.i p.snow.lo,.i p.snow.hi,.sl (p.opens.map Span.row)]
def Net.cells (n:Net):List DV:=[.i n.places,.sl (n.paths.map Path.row)]
def Party.cells (p:Party):List DV:=[.i p.grade,.i p.load,.i p.pace.lo,.i p.pace.hi]
def walkCells (n:Net) (p:Party):List DV:=[.i n.places,.sl (n.paths.map Path.row),.i p.grade,.i p.load,.i p.pace.lo,.i p.pace.hi]
abbrev wr (x:Int):Int:=IntKind.i64.wrap x
def timeW (t pace snow load:Int):Int:=wr ((wr (wr (wr (t * pace) * wr (wr (100 + wr (5 * snow)) + load)) + 9999)).tdiv 10000)
theorem z37 {α β:Type} (f:β→α→β) (b:β) (l:List α) (i:Nat) (x:α) (h:l[i]?=some x):(l.take (i + 1)).foldl f b=f ((l.take i).foldl f b) x:=by
 rw [List.take_add_one,h];simp
theorem z10 {x:Int} (h:-(2 ^ 63)≤x∧x<2 ^ 63):IntKind.i64.wrap x=x:=by
 rw [IntKind.wrap_i64];omega
def withinB (n lo hi:Int):Bool:=decide (lo≤n) && decide (n≤hi)
def orderedB (s:Span) (lo hi:Int):Bool:=decide (lo≤s.lo) && (decide (s.lo≤s.hi) && decide (s.hi≤hi))
theorem z1020 (n lo hi:Int):Fn Tryd.prog 65 [.i n,.i lo,.i hi] (.bool (withinB n lo hi)):=by
 refine z11 15 Tryd.call65 Tryd.func65 rfl (by decide) fun J=>?_
 simp only [go_sem,St.start,Tryd.ntmps65,Tryd.results65]
 by_cases h:lo≤n
 ·repeat (first|refine nx ?_|(refine z3 fun K hK=>?_;simp only [go_sem,h];apply hK;clear hK K))
  simp only [go_sem,withinB,h]
 ·repeat (first|refine nx ?_|(refine z3 fun K hK=>?_;simp only [go_sem,h];apply hK;clear hK K))
  simp only [go_sem,withinB,h]
theorem z1242 (n lo hi:Int):Fn Tryd.prog 59 [.i n,.i lo,.i hi] (.bool (withinB n lo hi)):=by
 refine z11 15 Tryd.call59 Tryd.func59 rfl (by decide) fun J=>?_
 simp only [go_sem,St.start,Tryd.ntmps59,Tryd.results59]
 by_cases h:lo≤n
 ·repeat (first|refine nx ?_|(refine z3 fun K hK=>?_;simp only [go_sem,h,ge_iff_le];apply hK;clear hK K))
  simp only [go_sem,withinB,h]
 ·repeat (first|refine nx ?_|(refine z3 fun K hK=>?_;simp only [go_sem,h,ge_iff_le];apply hK;clear hK K))
  simp only [go_sem,withinB,h]
theorem z1243 (s:Span) (lo hi:Int):Fn Tryd.prog 93 [.agg s.row,.i lo,.i hi] (.bool (orderedB s lo hi)):=by
 refine z11 24 Tryd.call93 Tryd.func93 rfl (by decide) fun J=>?_
 simp only [go_sem,St.start,Tryd.ntmps93,Tryd.results93,Span.row]
 by_cases h:lo≤s.lo <;> by_cases h2:s.lo≤s.hi
 all_goals
  repeat (first|refine nx ?_|(refine z3 fun K hK=>?_;simp only [go_sem,h,h2];apply hK;clear hK K))
  simp only [go_sem,orderedB,h,h2]
theorem z1244 (s:Span) (lo hi:Int):Fn Tryd.prog 60 [.agg s.row,.i lo,.i hi] (.bool (orderedB s lo hi)):=by
 refine z11 24 Tryd.call60 Tryd.func60 rfl (by decide) fun J=>?_
 simp only [go_sem,St.start,Tryd.ntmps60,Tryd.results60,Span.row]
 by_cases h:lo≤s.lo <;> by_cases h2:s.lo≤s.hi
 all_goals
  repeat (first|refine nx ?_|(refine z3 fun K hK=>?_;simp only [go_sem,h,h2,ge_iff_le];apply hK;clear hK K))
  simp only [go_sem,orderedB,h,h2]
theorem z1251 (n:Net) (x:Int) (hn:0≤n.places∧n.places<2 ^ 62):Fn Tryd.prog 107 [.i x,.ptr n.cells 0] (.bool (withinB x 0 (n.places - 1))):=by
 refine z11 9 Tryd.call107 Tryd.func107 rfl (by decide) fun J=>?_
 simp only [go_sem,St.start,Tryd.ntmps107,Tryd.results107,Net.cells]
 have hw:IntKind.i64.wrap (n.places - 1)=n.places - 1:=z10 (by omega)
 repeat (first|refine nx ?_|(refine z3 fun K hK=>?_;simp only [go_sem,hw];(repeat (first|(refine⟨_,.lent (hf:=z1020 _ _ _) (hd:=rfl) (hr:=rfl),?_⟩;simp only [go_sem,hw])|(refine⟨_,.given (hf:=z1020 _ _ _) (hd:=rfl) (ha:=rfl),?_⟩;simp only [go_sem,hw])));apply hK;clear hK K))
 simp only [go_sem]
theorem z1289 (n:Net) (x:Int) (hn:-(2 ^ 62)≤n.places∧n.places<2 ^ 62):Fn Tryd.prog 24 [.agg n.cells,.i x] (.bool (withinB x 0 (n.places - 1))):=by
 refine z11 10 Tryd.call24 Tryd.func24 rfl (by decide) fun J=>?_
 simp only [go_sem,St.start,Tryd.ntmps24,Tryd.results24,Net.cells]
 have hw:IntKind.i64.wrap (n.places - 1)=n.places - 1:=z10 (by omega)
 repeat (first|refine nx ?_|(refine z3 fun K hK=>?_;simp only [go_sem,hw];(repeat (first|(refine⟨_,.lent (hf:=z1242 _ _ _) (hd:=rfl) (hr:=rfl),?_⟩;simp only [go_sem,hw])|(refine⟨_,.given (hf:=z1242 _ _ _) (hd:=rfl) (ha:=rfl),?_⟩;simp only [go_sem,hw])));apply hK;clear hK K))
 simp only [go_sem]
theorem z1304 (s:Span) (n:DV):Fn Tryd.prog 108 [.agg s.row] (.bool (!orderedB s 0 2880)):=by
 refine z11 6 Tryd.call108 Tryd.func108 rfl (by decide) fun J=>?_
 simp only [go_sem,St.start,Tryd.ntmps108,Tryd.results108,Span.row]
 repeat (first|refine nx ?_|(refine z3 fun K hK=>?_;simp only [go_sem];(repeat (first|(refine⟨_,.lent (hf:=z1243 s _ _) (hd:=rfl) (hr:=rfl),?_⟩;simp only [go_sem])|(refine⟨_,.given (hf:=z1243 s _ _) (hd:=rfl) (ha:=rfl),?_⟩;simp only [go_sem])));apply hK;clear hK K))
 simp only [go_sem]
theorem z1299 (s:Span):Fn Tryd.prog 115 [.agg s.row] (.i s.hi):=by
 refine z11 5 Tryd.call115 Tryd.func115 rfl (by decide) fun J=>?_
 simp only [go_sem,St.start,Tryd.ntmps115,Tryd.results115,Span.row]
 repeat (first|refine nx ?_|(refine z3 fun K hK=>?_;simp only [go_sem];apply hK;clear hK K))
 simp only [go_sem]
theorem z1298 (s:Span):Fn Tryd.prog 116 [.agg s.row] (.i s.lo):=by
 refine z11 5 Tryd.call116 Tryd.func116 rfl (by decide) fun J=>?_
 simp only [go_sem,St.start,Tryd.ntmps116,Tryd.results116,Span.row]
 repeat (first|refine nx ?_|(refine z3 fun K hK=>?_;simp only [go_sem];apply hK;clear hK K))
 simp only [go_sem]
theorem z1325 (lo hi:Int):Fn Tryd.prog 99 [.i lo,.i hi] (.agg [.i lo,.i hi]):=by
 refine z11 8 Tryd.call99 Tryd.func99 rfl (by decide) fun J=>?_
 simp only [go_sem,St.start,Tryd.ntmps99,Tryd.results99]
 repeat (first|refine nx ?_|(refine z3 fun K hK=>?_;simp only [go_sem];apply hK;clear hK K))
 simp only [go_sem]
theorem z1332 (n:Net) (p:Party) (i:Nat) (x:Path) (hx:n.paths[i]?=some x):Fn Tryd.prog 66 [.agg (walkCells n p),.i i] (.bool (decide (x.grade≤p.grade))):=by
 refine z11 16 Tryd.call66 Tryd.func66 rfl (by decide) fun J=>?_
 simp only [go_sem,St.start,Tryd.ntmps66,Tryd.results66,walkCells]
 repeat (first|refine nx ?_|(refine z3 fun K hK=>?_;simp only [go_sem,hx,List.getElem?_map,Path.row];apply hK;clear hK K)|(refine z8 (by kernel_rfl) (by kernel_rfl) fun K hK=>?_;simp only [go_sem,hx,List.getElem?_map,Path.row];refine⟨by kernel_rfl,hK _ ?_⟩;clear hK K))
 simp only [go_sem]
theorem z1277 (t pace snow:Int) (n:Net) (p:Party):Fn Tryd.prog 94 [.i t,.i pace,.i snow,.ptr (walkCells n p) 0] (.i (timeW t pace snow p.load)):=by
 refine z11 21 Tryd.call94 Tryd.func94 rfl (by decide) fun J=>?_
 simp only [go_sem,St.start,Tryd.ntmps94,Tryd.results94,walkCells]
 repeat (first|refine nx ?_|(refine z3 fun K hK=>?_;simp only [go_sem];apply hK;clear hK K))
 simp only [go_sem,timeW]
def enterF (opens:List Span) (t:Int):Int:=opens.foldl (fun f s=>if t≤s.hi then min f (max t s.lo) else f) 1073741824
end Go.Ab
namespace Go.Ab
open Go.RowKit Go.Proofs
def spanW (x:Path) (p:Party):Span:=⟨timeW x.time.lo p.pace.lo x.snow.lo p.load,timeW x.time.hi p.pace.hi x.snow.hi p.load⟩
theorem z1331 (n:Net) (p:Party) (i:Nat) (x:Path) (hx:n.paths[i]?=some x):Fn Tryd.prog 67 [.agg (walkCells n p),.i i] (.agg (spanW x p).row):=by
 refine z11 39 Tryd.call67 Tryd.func67 rfl (by decide) fun J=>?_
 simp only [go_sem,St.start,Tryd.ntmps67,Tryd.results67,walkCells]
 repeat (first|refine nx ?_|(refine z3 fun K hK=>?_;simp only [go_sem,hx,List.getElem?_map,Path.row,Span.row,spanW];(repeat (first|(refine⟨_,.lent (hf:=z1277 _ _ _ n p) (hd:=rfl) (hr:=rfl),?_⟩;simp only [go_sem,hx,List.getElem?_map,Path.row,Span.row,spanW])|(refine⟨_,.given (hf:=z1277 _ _ _ n p) (hd:=rfl) (ha:=rfl),?_⟩;simp only [go_sem,hx,List.getElem?_map,Path.row,Span.row,spanW])));apply hK;clear hK K)|(refine z8 (by kernel_rfl) (by kernel_rfl) fun K hK=>?_;simp only [go_sem,hx,List.getElem?_map,Path.row,Span.row,spanW];(repeat (first|(refine⟨_,.fn (hf:=z1277 _ _ _ n p) (hd:=rfl) (hr:=.inl rfl),?_⟩;simp only [go_sem,hx,List.getElem?_map,Path.row,Span.row,spanW])));refine⟨by kernel_rfl,hK _ ?_⟩;clear hK K))
 simp only [go_sem,hx,List.getElem?_map,Path.row,Span.row,spanW]
def idxFrom {α:Type} (q:α→Bool):List α→Nat→Int
 | [],_=>-1
 | x::xs,i=>if q x then (i:Int) else idxFrom q xs (i + 1)
theorem z42 {α:Type} (q:α→Bool):∀ (l:List α) (i:Nat),decide (idxFrom q l i ≥ 0)=l.any q
 | [],i=>by simp [idxFrom]
 | x::xs,i=>by
  simp only [idxFrom,List.any_cons]
  by_cases h:q x
  ·simp [h]
  ·simp [h,← z42 q xs (i + 1)]
theorem z131 (m:List (Option Blk)) (x:AV) (d:DV) (caps:List DV) (h:reify m deep x=some d):allSome ((x::caps.map AV.d).map (reify m deep))=some (d::caps):=by
 have:∀ l:List DV,allSome ((l.map AV.d).map (reify m deep))=some l:=by
  intro l
  induction l with
  | nil=>rfl
  | cons a l ih =>
   simp only [List.map_cons]
   rw [show reify m deep (AV.d a)=some a from rfl]
   simp only [allSome,ih,Option.map_some]
 simp only [List.map_cons,h,allSome]
 rw [this caps]
 rfl
theorem z58 {α:Type} {l:List α} {i:Nat} {x:α} (h:l[i]?=some x):l.drop i=x::l.drop (i + 1):=by
 obtain⟨hlt,rfl⟩:=List.getElem?_eq_some_iff.1 h
 exact List.drop_eq_getElem_cons hlt
theorem z1247 (xs:List Span) (g:Nat) (caps:List DV) (q:Span→Bool) (hq:∀ s ∈ xs,Fn Tryd.prog g (.agg s.row::caps) (.bool (q s))) (hl:xs.length<2 ^ 62):Fn Tryd.prog 123 [.sl (xs.map Span.row),.fn g caps] (.i (idxFrom q xs 0)):=by
 refine z11 19 Tryd.call123 Tryd.func123 rfl (by decide) fun J=>?_
 simp only [go_sem,St.start,Tryd.ntmps123,Tryd.results123]
 repeat (first|refine nx ?_|(refine z3 fun K hK=>?_;simp only [go_sem];apply hK;clear hK K))
 refine z13 (fun (i:Nat)=>[(8,.d (.i i))]) (fun _=>[]) (fun i=>i≤xs.length∧idxFrom q xs 0=idxFrom q (xs.drop i) i) (fun i=>xs.length - i) 0 ?_ ⟨Nat.zero_le _,rfl⟩ ?_
 ·simp only [go_sem]
  refine weA ?_ ?_ <;> simp
 ·intro i ⟨hi,hq0⟩
  simp only [go_sem]
  repeat (first|refine nx ?_|(refine z3 fun K hK=>?_;simp only [go_sem];apply hK;clear hK K))
  refine z6 rfl (fun hb=>?_) (fun hb=>?_)
  ·have hlt:i<xs.length:=by simpa using hb
   obtain⟨s,hs⟩:∃ s,xs[i]?=some s:=⟨_,List.getElem?_eq_getElem hlt⟩
   have hw:IntKind.i64.wrap ((i:Int) + 1)=((i + 1:Nat):Int):=by rw [z10 (by omega)];simp
   rw [z58 hs,idxFrom] at hq0
   repeat (first|refine nx ?_|(refine z3 fun K hK=>?_;simp only [go_sem];apply hK;clear hK K))
   refine z3 fun K hK=>?_
   simp only [go_sem,hs,List.getElem?_map,Span.row,hw]
   refine⟨_,.lent (hf:=hq s (List.mem_of_getElem? hs)) (hd:=z131 _ _ _ _ rfl) (hr:=rfl),?_⟩
   simp only [go_sem]
   apply hK
   clear hK K
   refine z6 rfl (fun hc=>?_) (fun hc=>?_)
   ·rw [hc,if_pos rfl] at hq0
    repeat (first|refine nx ?_|(refine z3 fun K hK=>?_;simp only [go_sem];apply hK;clear hK K))
    simp only [go_sem,hq0]
   ·rw [hc] at hq0
    repeat (first|refine nx ?_|(refine z3 fun K hK=>?_;simp only [go_sem,hw];apply hK;clear hK K))
    refine⟨rfl,i + 1,?_,⟨hlt,hq0⟩,by omega⟩
    refine weA ?_ ?_ <;> simp
  ·have he:i=xs.length:=by have:¬ i<xs.length:=by simpa using hb
                           omega
   subst he
   repeat (first|refine nx ?_|(refine z3 fun K hK=>?_;simp only [go_sem];apply hK;clear hK K))
   simp only [go_sem,hq0,List.drop_length,idxFrom]
theorem z1246 (xs:List (Path)) (g:Nat) (caps:List DV) (q:Path→Bool) (hq:∀ s ∈ xs,Fn Tryd.prog g (.agg s.row::caps) (.bool (q s))) (hl:xs.length<2 ^ 62):Fn Tryd.prog 124 [.sl (xs.map Path.row),.fn g caps] (.i (idxFrom q xs 0)):=by
 refine z11 19 Tryd.call124 Tryd.func124 rfl (by decide) fun J=>?_
 simp only [go_sem,St.start,Tryd.ntmps124,Tryd.results124]
 repeat (first|refine nx ?_|(refine z3 fun K hK=>?_;simp only [go_sem];apply hK;clear hK K))
 refine z13 (fun (i:Nat)=>[(8,.d (.i i))]) (fun _=>[]) (fun i=>i≤xs.length∧idxFrom q xs 0=idxFrom q (xs.drop i) i) (fun i=>xs.length - i) 0 ?_ ⟨Nat.zero_le _,rfl⟩ ?_
 ·simp only [go_sem]
  refine weA ?_ ?_ <;> simp
 ·intro i ⟨hi,hq0⟩
  simp only [go_sem]
  repeat (first|refine nx ?_|(refine z3 fun K hK=>?_;simp only [go_sem];apply hK;clear hK K))
  refine z6 rfl (fun hb=>?_) (fun hb=>?_)
  ·have hlt:i<xs.length:=by simpa using hb
   obtain⟨s,hs⟩:∃ s,xs[i]?=some s:=⟨_,List.getElem?_eq_getElem hlt⟩
   have hw:IntKind.i64.wrap ((i:Int) + 1)=((i + 1:Nat):Int):=by rw [z10 (by omega)];simp
   rw [z58 hs,idxFrom] at hq0
   repeat (first|refine nx ?_|(refine z3 fun K hK=>?_;simp only [go_sem];apply hK;clear hK K))
   refine z3 fun K hK=>?_
   simp only [go_sem,hs,List.getElem?_map,Path.row,hw]
   refine⟨_,.lent (hf:=hq s (List.mem_of_getElem? hs)) (hd:=z131 _ _ _ _ rfl) (hr:=rfl),?_⟩
   simp only [go_sem]
   apply hK
   clear hK K
   refine z6 rfl (fun hc=>?_) (fun hc=>?_)
   ·rw [hc,if_pos rfl] at hq0
    repeat (first|refine nx ?_|(refine z3 fun K hK=>?_;simp only [go_sem];apply hK;clear hK K))
    simp only [go_sem,hq0]
   ·rw [hc] at hq0
    repeat (first|refine nx ?_|(refine z3 fun K hK=>?_;simp only [go_sem,hw];apply hK;clear hK K))
    refine⟨rfl,i + 1,?_,⟨hlt,hq0⟩,by omega⟩
    refine weA ?_ ?_ <;> simp
  ·have he:i=xs.length:=by have:¬ i<xs.length:=by simpa using hb
                           omega
   subst he
   repeat (first|refine nx ?_|(refine z3 fun K hK=>?_;simp only [go_sem];apply hK;clear hK K))
   simp only [go_sem,hq0,List.drop_length,idxFrom]
theorem z1252 (xs:List (Int)) (g:Nat) (caps:List DV) (q:Int→Bool) (hq:∀ s ∈ xs,Fn Tryd.prog g (.i s::caps) (.bool (q s))) (hl:xs.length<2 ^ 62):Fn Tryd.prog 106 [.sl (xs.map (fun x=>[.i x])),.fn g caps] (.i (idxFrom q xs 0)):=by
 refine z11 19 Tryd.call106 Tryd.func106 rfl (by decide) fun J=>?_
 simp only [go_sem,St.start,Tryd.ntmps106,Tryd.results106]
 repeat (first|refine nx ?_|(refine z3 fun K hK=>?_;simp only [go_sem];apply hK;clear hK K))
 refine z13 (fun (i:Nat)=>[(8,.d (.i i))]) (fun _=>[]) (fun i=>i≤xs.length∧idxFrom q xs 0=idxFrom q (xs.drop i) i) (fun i=>xs.length - i) 0 ?_ ⟨Nat.zero_le _,rfl⟩ ?_
 ·simp only [go_sem]
  refine weA ?_ ?_ <;> simp
 ·intro i ⟨hi,hq0⟩
  simp only [go_sem]
  repeat (first|refine nx ?_|(refine z3 fun K hK=>?_;simp only [go_sem];apply hK;clear hK K))
  refine z6 rfl (fun hb=>?_) (fun hb=>?_)
  ·have hlt:i<xs.length:=by simpa using hb
   obtain⟨s,hs⟩:∃ s,xs[i]?=some s:=⟨_,List.getElem?_eq_getElem hlt⟩
   have hw:IntKind.i64.wrap ((i:Int) + 1)=((i + 1:Nat):Int):=by rw [z10 (by omega)];simp
   rw [z58 hs,idxFrom] at hq0
   repeat (first|refine nx ?_|(refine z3 fun K hK=>?_;simp only [go_sem];apply hK;clear hK K))
   refine z3 fun K hK=>?_
   simp only [go_sem,hs,List.getElem?_map,hw]
   refine⟨_,.lent (hf:=hq s (List.mem_of_getElem? hs)) (hd:=z131 _ _ _ _ rfl) (hr:=rfl),?_⟩
   simp only [go_sem]
   apply hK
   clear hK K
   refine z6 rfl (fun hc=>?_) (fun hc=>?_)
   ·rw [hc,if_pos rfl] at hq0
    repeat (first|refine nx ?_|(refine z3 fun K hK=>?_;simp only [go_sem];apply hK;clear hK K))
    simp only [go_sem,hq0]
   ·rw [hc] at hq0
    repeat (first|refine nx ?_|(refine z3 fun K hK=>?_;simp only [go_sem,hw];apply hK;clear hK K))
    refine⟨rfl,i + 1,?_,⟨hlt,hq0⟩,by omega⟩
    refine weA ?_ ?_ <;> simp
  ·have he:i=xs.length:=by have:¬ i<xs.length:=by simpa using hb
                           omega
   subst he
   repeat (first|refine nx ?_|(refine z3 fun K hK=>?_;simp only [go_sem];apply hK;clear hK K))
   simp only [go_sem,hq0,List.drop_length,idxFrom]
theorem z1302 (xs:List (Span)) (g:Nat) (caps:List DV) (q:Span→Bool) (hq:∀ s ∈ xs,Fn Tryd.prog g (.agg s.row::caps) (.bool (q s))) (hl:xs.length<2 ^ 62):Fn Tryd.prog 110 [.sl (xs.map Span.row),.fn g caps] (.bool (xs.any q)):=by
 refine z11 9 Tryd.call110 Tryd.func110 rfl (by decide) fun J=>?_
 simp only [go_sem,St.start,Tryd.ntmps110,Tryd.results110]
 repeat (first|refine nx ?_|(refine z3 fun K hK=>?_;simp only [go_sem];(repeat (first|(refine⟨_,.lent (hf:=z1247 xs g caps q hq hl) (hd:=rfl) (hr:=rfl),?_⟩;simp only [go_sem])|(refine⟨_,.given (hf:=z1247 xs g caps q hq hl) (hd:=rfl) (ha:=rfl),?_⟩;simp only [go_sem])));apply hK;clear hK K))
 simp only [go_sem,z42]
theorem z1301 (xs:List (Path)) (g:Nat) (caps:List DV) (q:Path→Bool) (hq:∀ s ∈ xs,Fn Tryd.prog g (.agg s.row::caps) (.bool (q s))) (hl:xs.length<2 ^ 62):Fn Tryd.prog 111 [.sl (xs.map Path.row),.fn g caps] (.bool (xs.any q)):=by
 refine z11 9 Tryd.call111 Tryd.func111 rfl (by decide) fun J=>?_
 simp only [go_sem,St.start,Tryd.ntmps111,Tryd.results111]
 repeat (first|refine nx ?_|(refine z3 fun K hK=>?_;simp only [go_sem];(repeat (first|(refine⟨_,.lent (hf:=z1246 xs g caps q hq hl) (hd:=rfl) (hr:=rfl),?_⟩;simp only [go_sem])|(refine⟨_,.given (hf:=z1246 xs g caps q hq hl) (hd:=rfl) (ha:=rfl),?_⟩;simp only [go_sem])));apply hK;clear hK K))
 simp only [go_sem,z42]
theorem z1279 (xs:List (Int)) (g:Nat) (caps:List DV) (q:Int→Bool) (hq:∀ s ∈ xs,Fn Tryd.prog g (.i s::caps) (.bool (q s))) (hl:xs.length<2 ^ 62):Fn Tryd.prog 89 [.sl (xs.map fun x=>[.i x]),.fn g caps] (.bool (xs.any q)):=by
 refine z11 9 Tryd.call89 Tryd.func89 rfl (by decide) fun J=>?_
 simp only [go_sem,St.start,Tryd.ntmps89,Tryd.results89]
 repeat (first|refine nx ?_|(refine z3 fun K hK=>?_;simp only [go_sem];(repeat (first|(refine⟨_,.lent (hf:=z1252 xs g caps q hq hl) (hd:=rfl) (hr:=rfl),?_⟩;simp only [go_sem])|(refine⟨_,.given (hf:=z1252 xs g caps q hq hl) (hd:=rfl) (ha:=rfl),?_⟩;simp only [go_sem])));apply hK;clear hK K))
 simp only [go_sem,z42]
end Go.Ab
namespace Go.Ab
open Go.RowKit Go.Proofs
def latestF (opens:List Span) (b:Int):Int:=opens.foldl (fun last s=>if s.lo≤b then max last (min s.hi b) else last) (-1)
def arriveF (opens:List Span) (t time:Int):Int:=if wr (enterF opens t + time) > 2880 then 1073741824 else wr (enterF opens t + time)
theorem z1291 (n:Net) (p:Party) (i:Nat) (x:Path) (t time:Int) (hx:n.paths[i]?=some x) (hl:x.opens.length<2 ^ 62):Fn Tryd.prog 128 [.agg (walkCells n p),.i i,.i t,.i time] (.i (arriveF x.opens t time)):=by
 refine z11 42 Tryd.call128 Tryd.func128 rfl (by decide) fun J=>?_
 simp only [go_sem,St.start,Tryd.ntmps128,Tryd.results128,walkCells]
 repeat (first|refine nx ?_|(refine z3 fun K hK=>?_;simp only [go_sem,hx,List.getElem?_map,Path.row];apply hK;clear hK K))
 refine z13 (fun (j:Nat)=>[(9,.d (.i (enterF (x.opens.take j) t))),(20,.d (.i j))]) (fun _=>[]) (fun j=>j≤x.opens.length) (fun j=>x.opens.length - j) 0 ?_ (Nat.zero_le _) ?_
 ·simp only [go_sem]
  refine weA ?_ ?_ <;> simp
  rfl
 ·intro j hj
  simp only [go_sem]
  repeat (first|refine nx ?_|(refine z3 fun K hK=>?_;simp only [go_sem];apply hK;clear hK K))
  refine z6 rfl (fun hb=>?_) (fun hb=>?_)
  ·have hlt:j<x.opens.length:=by simpa using hb
   obtain⟨s,hs⟩:∃ s,x.opens[j]?=some s:=⟨_,List.getElem?_eq_getElem hlt⟩
   have hw:IntKind.i64.wrap ((j:Int) + 1)=((j + 1:Nat):Int):=by rw [z10 (by omega)];simp
   have hn:enterF (x.opens.take (j + 1)) t=if t≤s.hi then min (enterF (x.opens.take j) t) (max t s.lo) else enterF (x.opens.take j) t:=z37 _ _ _ _ _ hs
   repeat (first|refine nx ?_|(refine z3 fun K hK=>?_;simp only [go_sem,hs,List.getElem?_map,Span.row,hw];apply hK;clear hK K))
   refine z6 rfl (fun hc=>?_) (fun hc=>?_)
   ·have hc:t≤s.hi:=by simpa using hc
    repeat (first|refine nx ?_|(refine z3 fun K hK=>?_;simp only [go_sem,hs,List.getElem?_map,Span.row,hw];apply hK;clear hK K))
    refine⟨rfl,j + 1,?_,hlt,by omega⟩
    rw [hn,if_pos hc]
    refine weA ?_ ?_ <;> simp
   ·have hc:¬ t≤s.hi:=by simpa using hc
    repeat (first|refine nx ?_|(refine z3 fun K hK=>?_;simp only [go_sem,hs,List.getElem?_map,Span.row,hw];apply hK;clear hK K))
    refine⟨rfl,j + 1,?_,hlt,by omega⟩
    rw [hn,if_neg hc]
    refine weA ?_ ?_ <;> simp
  ·have he:j=x.opens.length:=by have:¬ j<x.opens.length:=by simpa using hb
                                omega
   subst he
   repeat (first|refine nx ?_|(refine z3 fun K hK=>?_;simp only [go_sem,List.take_length];apply hK;clear hK K))
   refine z6 rfl (fun hc=>?_) (fun hc=>?_)
   ·have hc:wr (enterF x.opens t + time) > 2880:=by simpa using hc
    repeat (first|refine nx ?_|(refine z3 fun K hK=>?_;simp only [go_sem,List.take_length];apply hK;clear hK K))
    simp only [go_sem,arriveF,hc]
   ·have hc:¬ wr (enterF x.opens t + time) > 2880:=by simpa using hc
    repeat (first|refine nx ?_|(refine z3 fun K hK=>?_;simp only [go_sem,List.take_length];apply hK;clear hK K))
    simp only [go_sem,arriveF,hc]
def stepF (x:Path) (p:Party) (t:Int) (high:Bool):Int :=
 if enterF x.opens t ≥ 1073741824 then 1073741824 else
  let a:=wr (enterF x.opens t + if high then (spanW x p).hi else (spanW x p).lo)
  if a > 2880 then 1073741824 else a
end Go.Ab
namespace Go.Ab
open Go.RowKit Go.Proofs
def waysFrom (p:Party) (but:Int):List Path→Nat→List (Nat × Path)
 | [],_=>[]
 | x::xs,i=>if (i:Int)≠but∧x.grade≤p.grade then (i,x)::waysFrom p but xs (i + 1) else waysFrom p but xs (i + 1)
def waysL (n:Net) (p:Party) (but:Int):List (Nat × Path):=waysFrom p but n.paths 0
def wayRow (x:Nat × Path):List DV:=[.i x.1,.agg x.2.row]
theorem z1292 (n:Net) (p:Party) (but:Int):Fn Tryd.prog 127 [.agg (walkCells n p),.i but] (.fn 131 [.ptr (walkCells n p) 0,.ptr [.i but] 0]):=by
 refine z11 6 Tryd.call127 Tryd.func127 rfl (by decide) fun J=>?_
 simp only [go_sem,St.start,Tryd.ntmps127,Tryd.results127,walkCells]
 repeat (first|refine nx ?_|(refine z3 fun K hK=>?_;simp only [go_sem];apply hK;clear hK K))
 simp only [go_sem,walkCells]
theorem z1225 (n:Net) (p:Party) (but:Int) (hl:n.paths.length<2 ^ 62):Iter Tryd.prog 131 [.ptr (walkCells n p) 0,.ptr [.i but] 0] ((waysL n p but).map wayRow):=by
 refine z1084 31 Tryd.call131 Tryd.func131 rfl rfl fun l J B hS hG=>?_
 simp only [go_sem,St.start,Tryd.ntmps131,walkCells]
 repeat (first|refine nx ?_|(refine z3 fun K hK=>?_;simp only [go_sem];apply hK;clear hK K))
 refine z60 (fun (j:Nat)=>[(10,.d (.i j))]) (fun _=>[]) (fun k j=>j≤n.paths.length∧∃ kk,k=some kk∧kk≤(waysL n p but).length∧(waysL n p but).drop kk=waysFrom p but (n.paths.drop j) j) (fun j=>n.paths.length - j) 0 ?_ ⟨Nat.zero_le _,0,rfl,Nat.zero_le _,rfl⟩ ?_
 ·simp only [go_sem]
  refine weA ?_ ?_ <;> simp
 ·rintro k j ⟨hj,kk,rfl,hkk,hd⟩
  simp only [go_sem]
  repeat (first|refine nx ?_|(refine z3 fun K hK=>?_;simp only [go_sem];apply hK;clear hK K))
  refine z6 rfl (fun hb=>?_) (fun hb=>?_)
  ·have hlt:j<n.paths.length:=by simpa using hb
   obtain⟨x,hx⟩:∃ x,n.paths[j]?=some x:=⟨_,List.getElem?_eq_getElem hlt⟩
   have hw:IntKind.i64.wrap ((j:Int) + 1)=((j + 1:Nat):Int):=by rw [z10 (by omega)];simp
   rw [z58 hx,waysFrom] at hd
   have h74:=z1332 n p j x hx
   repeat (first|refine nx ?_|(refine z3 fun K hK=>?_;simp only [go_sem,hx,List.getElem?_map,Path.row];apply hK;clear hK K))
   refine z491 hS hG fun K hK=>?_
   by_cases hbut:(j:Int)=but
   ·have hbe:((j:Int) != but)=false:=by simp [hbut]
    rw [if_neg (by simp [hbut])] at hd
    simp only [go_sem,hbe]
    refine hK _ _ ?_
    clear hK K
    refine z5 rfl ?_
    repeat (first|refine nx ?_|(refine z3 fun K hK=>?_;simp only [go_sem,hw];apply hK;clear hK K))
    refine⟨j + 1,?_,⟨hlt,kk,rfl,hkk,hd⟩,by omega⟩
    refine weA ?_ ?_ <;> simp
   ·have hbe:((j:Int) != but)=true:=by simpa using hbut
    simp only [go_sem,hbe]
    refine⟨_,.lent (hf:=h74) (hd:=rfl) (hr:=rfl),?_⟩
    by_cases hg:x.grade≤p.grade
    ·rw [if_pos ⟨hbut,hg⟩] at hd
     have hkl:kk<(waysL n p but).length:=by
      rcases Nat.lt_or_ge kk (waysL n p but).length with h | h
      ·exact h
      ·rw [List.drop_eq_nil_of_le h] at hd;cases hd
     have hget:(waysL n p but)[kk]?=some (j,x):=by
      have:=congrArg (fun l=>l[0]?) hd
      simpa using this
     have hd2:(waysL n p but).drop (kk + 1)=waysFrom p but (n.paths.drop (j + 1)) (j + 1):=by
      have:=congrArg (List.drop 1) hd
      simpa [Nat.add_comm] using this
     simp only [go_sem,hg]
     refine⟨rfl,kk,wayRow (j,x),rfl,rfl,by rw [List.getElem?_map,hget];rfl,?_,?_⟩
     ·simp only [go_sem]
      refine hK _ _ ?_
      clear hK K
      refine z5 rfl ?_
      repeat (first|refine nx ?_|(refine z3 fun K hK=>?_;simp only [go_sem,hw];apply hK;clear hK K))
      refine⟨j + 1,?_,⟨hlt,kk + 1,rfl,hkl,hd2⟩,by omega⟩
      refine weA ?_ ?_ <;> simp
     ·simp only [go_sem]
      refine hK _ _ ?_
      clear hK K
      refine z9 rfl ?_
      repeat (first|refine nx ?_|(refine z3 fun K hK=>?_;simp only [go_sem];apply hK;clear hK K))
      exact⟨trivial,.inr rfl⟩
    ·rw [if_neg (by simp [hg])] at hd
     simp only [go_sem,hg]
     refine hK _ _ ?_
     clear hK K
     refine z5 rfl ?_
     repeat (first|refine nx ?_|(refine z3 fun K hK=>?_;simp only [go_sem,hw];apply hK;clear hK K))
     refine⟨j + 1,?_,⟨hlt,kk,rfl,hkk,hd⟩,by omega⟩
     refine weA ?_ ?_ <;> simp
  ·have he:j=n.paths.length:=by have:¬ j<n.paths.length:=by simpa using hb
                                omega
   subst he
   repeat (first|refine nx ?_|(refine z3 fun K hK=>?_;simp only [go_sem];apply hK;clear hK K))
   refine⟨trivial,.inl ?_⟩
   rw [List.drop_length,waysFrom,List.drop_eq_nil_iff] at hd
   simp only [List.length_map,Option.some.injEq]
   omega
end Go.Ab
namespace Go.Ab
open Go.RowKit Go.Proofs
theorem z1163 (m:Nat) (h:m<2 ^ 32):bAnd .u64 (m:Int) 4294967295=(m:Int):=by
 have h1:(BitVec.ofInt 64 (m:Int) &&& BitVec.ofInt 64 4294967295).toNat=m:=by
  rw [BitVec.toNat_and]
  have e1:(BitVec.ofInt 64 (m:Int)).toNat=m:=by simp [BitVec.toNat_ofInt];omega
  have e2:(BitVec.ofInt 64 4294967295).toNat=2 ^ 32 - 1:=by decide
  rw [e1,e2,Nat.and_two_pow_sub_one_eq_mod,Nat.mod_eq_of_lt h]
 show IntKind.u64.wrap ((BitVec.ofInt 64 (m:Int) &&& BitVec.ofInt 64 4294967295).toNat:Int)=(m:Int)
 rw [h1,IntKind.wrap_u64]
 omega
theorem z898 (m:Nat) (h:m<2 ^ 63):IntKind.u64.wrap (m:Int)=(m:Int):=by rw [IntKind.wrap_u64];omega
theorem z1245 (m:Nat) (h:m<2 ^ 32):Fn Tryd.prog 130 [.int .u64 1,.int .u64 m] (.tup [.int .u64 0,.int .u64 m]):=by
 refine z11 51 Tryd.call130 Tryd.func130 rfl (by decide) fun J=>?_
 simp only [go_sem,St.start,Tryd.ntmps130,Tryd.results130]
 have h1:bAnd .u64 1 4294967295=1:=by decide
 have h2:bAnd .u64 (m:Int) 4294967295=m:=z1163 m h
 have h3:IntKind.u64.wrap (m:Int)=m:=z898 m (by omega)
 have h4:bShr .u64 (m:Int) 32=0:=by
  show Int.fdiv (m:Int) 4294967296=0
  rw [Int.fdiv_eq_ediv_of_nonneg _ (by omega)]
  omega
 have h5:bShr .u64 1 32=0:=by decide
 have h6:bShr .u64 0 32=0:=by decide
 have h7:IntKind.u64.wrap (0:Int)=0:=by decide
 have h8:bAnd .u64 0 4294967295=0:=by decide
 repeat (first|refine nx ?_|(refine z3 fun K hK=>?_;simp only [go_sem,h1,h2,h3,h4,h5,h6,h7,h8,Int.one_mul,Int.mul_one,Int.zero_mul,Int.mul_zero,Int.add_zero,Int.zero_add];apply hK;clear hK K))
 simp only [go_sem]
theorem z1248 (m:Nat) (h:m<2 ^ 32):Fn Tryd.prog 117 [.int .u64 1,.int .u64 m] (.tup [.int .u64 0,.int .u64 m]):=by
 refine z11 30 Tryd.call117 Tryd.func117 rfl (by decide) fun J=>?_
 simp only [go_sem,St.start,Tryd.ntmps117,Tryd.results117]
 repeat (first|refine nx ?_|(refine z3 fun K hK=>?_;simp only [go_sem];apply hK;clear hK K))
 refine z5 rfl ?_
 repeat (first|refine nx ?_|(refine z3 fun K hK=>?_;simp only [go_sem];(repeat (first|(refine⟨_,.lent (hf:=z1245 m h) (hd:=rfl) (hr:=rfl),?_⟩;simp only [go_sem])|(refine⟨_,.given (hf:=z1245 m h) (hd:=rfl) (ha:=rfl),?_⟩;simp only [go_sem])));apply hK;clear hK K))
 simp only [go_sem]
def filled (c:Int) (m i:Nat):List (List DV):=List.replicate i [.i c]++List.replicate (m - i) [.i 0]
theorem z1010 (c:Int) (m i:Nat) (h:i≤m):(filled c m i).length=m:=by simp [filled];omega
theorem z208 (c:Int) (m i:Nat):(filled c m i).take i=List.replicate i [.i c]:=by simp [filled,List.take_append]
theorem z885 (c:Int) (m i k:Nat):(filled c m i).drop (i + k)=List.replicate (m - (i + k)) [.i 0]:=by
 simp only [filled,List.drop_append,List.length_replicate,List.drop_replicate]
 rw [show i - (i + k)=0 by omega,show i + k - i=k by omega,show m - i - k=m - (i + k) by omega]
 rfl
theorem z883 (c:Int) (m i k:Nat) (hk:k≤i):(filled c m i).take i++((List.replicate i [DV.i c]).take k++(filled c m i).drop (i + k))=filled c m (i + k):=by
 rw [z208,z885,List.take_replicate,show min k i=k by omega,← List.append_assoc,List.replicate_append_replicate]
 rfl
theorem z884 (c:Int) (m:Nat):List.take (min 1 m) [[DV.i c]]++List.drop (min 1 m) (List.replicate m [DV.i 0])=filled c m (min 1 m):=by
 rcases Nat.eq_zero_or_pos m with h | h
 ·subst h;rfl
 ·rw [show min 1 m=1 by omega]
  simp [filled]
attribute [go_sem] opCopyA
theorem z1326 (c:Int) (m:Nat) (h:m<2 ^ 30):FnS Tryd.prog 92 [.sl [[.i c]],.i m] 3 1 (List.replicate m [.i c]):=by
 refine z297 48 Tryd.call92 Tryd.func92 rfl (by decide) fun J=>?_
 simp only [go_sem,St.start,Tryd.ntmps92,Tryd.results92]
 have h1:¬ ((m:Int)<0):=by omega
 have h2:IntKind.u64.wrap (m:Int)=m:=z898 m (by omega)
 have h3:IntKind.i64.wrap (m:Int)=m:=z10 (by omega)
 have h4:¬ (9223372036854775807<(m:Int)):=by omega
 have h5:IntKind.u64.wrap (1:Int)=1:=by decide
 have h6:(m:Int)≤2 ^ 40:=by omega
 repeat (first|refine nx ?_|(refine z3 fun K hK=>?_;simp only [go_sem,h1];apply hK;clear hK K))
 refine z5 rfl ?_
 repeat (first|refine nx ?_|(refine z3 fun K hK=>?_;simp only [go_sem,h2,h5,h4,gt_iff_lt,Int.lt_irrefl];(repeat (first|(refine⟨_,.lent (hf:=z1248 m (by omega)) (hd:=rfl) (hr:=rfl),?_⟩;simp only [go_sem,h2,h5,h4,gt_iff_lt,Int.lt_irrefl])|(refine⟨_,.given (hf:=z1248 m (by omega)) (hd:=rfl) (ha:=rfl),?_⟩;simp only [go_sem,h2,h5,h4,gt_iff_lt,Int.lt_irrefl])));apply hK;clear hK K))
 refine z5 rfl ?_
 have h7:(m:Int)≤1099511627776:=by omega
 repeat (first|refine nx ?_|(refine z3 fun K hK=>?_;simp only [go_sem,h3,h7,h1];apply hK;clear hK K))
 refine z13 (fun (i:Nat)=>[(7,.own 30),(30,.own 30),(31,.own 30),(8,.d (.i i))]) (fun i=>[(30,some (.arr 3 1 (filled c m i)))]) (fun i=>i≤m∧(i=0→m=0)) (fun i=>m - i) (min 1 m) ?_ (by omega) ?_
 ·simp only [go_sem]
  rw [show List.take (min 1 m) [[DV.i c]]++List.drop (min 1 m) (List.replicate m [DV.int IntKind.i64 0])=filled c m (min 1 m) from z884 c m]
  refine weA ?_ ?_ <;> simp
 ·intro i ⟨hi,hi0⟩
  have hl:=z1010 c m i hi
  simp only [go_sem]
  repeat (first|refine nx ?_|(refine z3 fun K hK=>?_;simp only [go_sem,hl];apply hK;clear hK K))
  refine z6 rfl (fun hb=>?_) (fun hb=>?_)
  ·have hlt:i<m:=by simpa using hb
   have e1:(i:Int)≤(m:Int):=by omega
   have e2:i + (m - i)≤m:=by omega
   have e3:i≤m:=hi
   have e4:min i (m - i)≤i:=by omega
   have hs:=z883 c m i (min i (m - i)) e4
   have hw:IntKind.i64.wrap ((i:Int) + ((min i (m - i):Nat):Int))=((i + min i (m - i):Nat):Int):=by rw [z10 (by omega)];simp
   rw [z208] at hs
   have e5:∀ k,headIs 1 (List.replicate k [DV.i c])=true:=fun k=>by cases k <;> rfl
   repeat (first|refine nx ?_|(refine z3 fun K hK=>?_;simp only [go_sem];apply hK;clear hK K))
   refine z8 (by kernel_rfl) (by kernel_rfl) fun K hK=>?_
   simp only [go_sem,hl,e1,e2,e3,hw,z208,Nat.sub_zero,List.drop_zero,hs]
   refine⟨e5 i,by kernel_rfl,hK _ ?_⟩
   clear hK K
   repeat (first|refine nx ?_|(refine z3 fun K hK=>?_;simp only [go_sem];apply hK;clear hK K))
   refine⟨rfl,i + min i (m - i),?_,by omega,by omega⟩
   refine weA ?_ ?_ <;> simp
  ·have he:i=m:=by have:¬ i<m:=by simpa using hb
                   omega
   subst he
   repeat (first|refine nx ?_|(refine z3 fun K hK=>?_;simp only [go_sem];apply hK;clear hK K))
   simp only [go_sem,filled,Nat.sub_self,List.replicate]
end Go.Ab
namespace Go.Ab
open Go.RowKit Go.Proofs
def intRows (l:List Int):List (List DV):=l.map fun x=>[.i x]
def getI (l:List Int) (i:Int):Int:=l.getD i.toNat 0
theorem z80 {l:List Int} {i:Int} (h0:0≤i) (h1:i.toNat<l.length):(intRows l)[i.toNat]?=some [.i (getI l i)]:=by
 simp [intRows,getI,h1]
theorem z16 (l:List Int):(intRows l).length=l.length:=by simp [intRows]
theorem z89 (l:List Int):rowsFlat (intRows l):=by
 intro r hr d hd
 obtain⟨x,_,rfl⟩:=List.mem_map.1 hr
 simp at hd;subst hd;rfl
theorem z48 (l:List Int) (k:Nat) (x:Int):(intRows l).set k [.i x]=intRows (l.set k x):=by simp [intRows,List.map_set]
theorem z134 (m:Nat) (c:Int):List.replicate m [DV.i c]=intRows (List.replicate m c):=by simp [intRows]
structure Net.Ok (n:Net):Prop where
 places:0≤n.places∧n.places<2 ^ 20
 paths:n.paths.length<2 ^ 20
 frm:∀ x ∈ n.paths,0≤x.frm∧x.frm<n.places
 to:∀ x ∈ n.paths,0≤x.to∧x.to<n.places
 opens:∀ x ∈ n.paths,x.opens.length<2 ^ 20
theorem z120 (p:Party) (but:Int):∀ (l:List Path) (i:Nat) (w:Nat × Path),w ∈ waysFrom p but l i→i≤w.1∧l[w.1 - i]?=some w.2∧w.2.grade≤p.grade∧(w.1:Int)≠but
 | [],_,_,h=>by simp [waysFrom] at h
 | x::xs,i,w,h=>by
  unfold waysFrom at h
  split at h
  ·rename_i hc
   rcases List.mem_cons.1 h with rfl | h
   ·exact⟨Nat.le_refl _,by simp,hc.2,hc.1⟩
   ·obtain⟨h1,h2,h3,h4⟩:=z120 p but xs (i + 1) w h
    exact⟨by omega,by rw [show w.1 - i=(w.1 - (i + 1)) + 1 by omega];simpa using h2,h3,h4⟩
  ·obtain⟨h1,h2,h3,h4⟩:=z120 p but xs (i + 1) w h
   exact⟨by omega,by rw [show w.1 - i=(w.1 - (i + 1)) + 1 by omega];simpa using h2,h3,h4⟩
theorem z163 {n:Net} {p:Party} {but:Int} {w:Nat × Path} (h:w ∈ waysL n p but):n.paths[w.1]?=some w.2:=by
 have:=(z120 p but n.paths 0 w h).2.1
 simpa using this
def relaxD (p:Party) (a:List Int × Bool) (w:Nat × Path):List Int × Bool :=
 let t:=latestF w.2.opens (wr (getI a.1 w.2.to - (spanW w.2 p).hi))
 if t > getI a.1 w.2.frm then (a.1.set w.2.frm.toNat t,true) else a
def passD (n:Net) (p:Party) (l:List Int):List Int × Bool:=(waysL n p (-1)).foldl (relaxD p) (l,false)
end Go.Ab
namespace Go.Ab
open Go.RowKit Go.Proofs
def riseM (l:List Int):Nat:=(l.map fun x=>(2881 - x).toNat).sum
theorem z462 (b:Int):∀ (opens:List Span) (last:Int),last≤2880→(∀ s ∈ opens,s.hi≤2880)→opens.foldl (fun last s=>if s.lo≤b then max last (min s.hi b) else last) last≤2880
 | [],last,h,_=>h
 | s::opens,last,h,hs=>by
  rw [List.foldl_cons]
  refine z462 b opens _ ?_ (fun s' h'=>hs s' (List.mem_cons_of_mem _ h'))
  have:=hs s (List.mem_cons_self ..)
  split <;> omega
def fixD (n:Net) (p:Party):Nat→List Int→List Int
 | 0,l=>l
 | k + 1,l=>if (passD n p l).2 then fixD n p k (passD n p l).1 else (passD n p l).1
def deadlines0 (n:Net) (to b:Int):List Int:=(List.replicate n.places.toNat (-1)).set to.toNat b
def deadlinesL (n:Net) (p:Party) (to b:Int):List Int:=fixD n p (riseM (deadlines0 n to b) + 1) (deadlines0 n to b)
end Go.Ab
namespace Go.Ab
open Go.RowKit Go.Proofs
attribute [local irreducible] WalkL Walk
theorem z575 {P:Program} {rd:Option Nat} {n:Nat} {J:Env} {c:Code} {cs:List Code} {k:Option Nat} {st:St} {Q:Exit→Option Nat→St→Prop} (ds:List Nat) (hw:Weak st (st.head ds [] [])) (h:WalkL P rd n J (c::cs) k (st.head ds [] []) Q) :
  WalkL P rd n J (c::cs) k st Q:=z63 hw h
end Go.Ab
namespace Go.Ab
open Go.RowKit Go.Proofs
attribute [local irreducible] WalkL Walk
def never:Int:=1073741824
def relaxA (p:Party) (q:Span→Int) (a:List Int × Bool) (w:Nat × Path):List Int × Bool :=
 if getI a.1 w.2.frm=never then a else
  let t:=arriveF w.2.opens (getI a.1 w.2.frm) (q (spanW w.2 p))
  if t<getI a.1 w.2.to then (a.1.set w.2.to.toNat t,true) else a
def passA (n:Net) (p:Party) (q:Span→Int) (but:Int) (l:List Int):List Int × Bool:=(waysL n p but).foldl (relaxA p q) (l,false)
theorem z450 (p:Party) (q:Span→Int) (a:List Int × Bool) (w:Nat × Path):(relaxA p q a w).1.length=a.1.length:=by
 unfold relaxA
 split
 ·rfl
 ·dsimp only;split <;> simp
theorem z180 (p:Party) (q:Span→Int):∀ (ws:List (Nat × Path)) (a:List Int × Bool),(ws.foldl (relaxA p q) a).1.length=a.1.length
 | [],_=>rfl
 | w::ws,a=>by rw [List.foldl_cons,z180 p q ws,z450]
def fallM (l:List Int):Nat:=(l.map fun x=>(x + 9223372036854775809).toNat).sum
theorem z728:∀ (l:List Int) (k:Nat) (t x:Int),l[k]?=some x→t<x→-9223372036854775808≤t→fallM (l.set k t)<fallM l
 | [],_,_,_,h,_,_=>by simp at h
 | a::l,0,t,x,h,h1,h2=>by
  simp at h;subst h
  simp only [fallM,List.set_cons_zero,List.map_cons,List.sum_cons]
  omega
 | a::l,k + 1,t,x,h,h1,h2=>by
  have:=z728 l k t x (by simpa using h) h1 h2
  simp only [fallM,List.set_cons_succ,List.map_cons,List.sum_cons] at this ⊢
  omega
theorem z1255 (x:Int):-9223372036854775808≤wr x:=by
 show -9223372036854775808≤IntKind.i64.wrap x
 rw [IntKind.wrap_i64];omega
theorem z893 (opens:List Span) (t d:Int):-9223372036854775808≤arriveF opens t d:=by
 unfold arriveF;split
 ·omega
 ·exact z1255 _
theorem z1097 (p:Party) (q:Span→Int):∀ (ws:List (Nat × Path)) (a:List Int × Bool),(∀ w ∈ ws,w.2.to.toNat<a.1.length) →
  fallM (ws.foldl (relaxA p q) a).1≤fallM a.1∧(a.2=false→(ws.foldl (relaxA p q) a).2=true→fallM (ws.foldl (relaxA p q) a).1<fallM a.1)
 | [],a,_=>⟨Nat.le_refl _,fun h1 h2=>by simp only [List.foldl_nil] at h2;rw [h1] at h2;cases h2⟩
 | w::ws,a,h=>by
  have h2:=h w (List.mem_cons_self ..)
  have ih:=z1097 p q ws (relaxA p q a w) (fun w' h'=>by rw [z450];exact h w' (List.mem_cons_of_mem _ h'))
  rw [List.foldl_cons]
  by_cases hn:getI a.1 w.2.frm=never
  ·have he:relaxA p q a w=a:=by unfold relaxA;rw [if_pos hn]
   rw [he] at ih ⊢;exact ih
  ·by_cases hc:arriveF w.2.opens (getI a.1 w.2.frm) (q (spanW w.2 p))<getI a.1 w.2.to
   ·have he:relaxA p q a w=(a.1.set w.2.to.toNat (arriveF w.2.opens (getI a.1 w.2.frm) (q (spanW w.2 p))),true):=by unfold relaxA;rw [if_neg hn];dsimp only;rw [if_pos hc]
    have hlt:fallM (relaxA p q a w).1<fallM a.1:=by
     rw [he]
     exact z728 a.1 _ _ (getI a.1 w.2.to) (by simp [getI,h2]) hc (z893 _ _ _)
    exact⟨by omega,fun _ _=>by omega⟩
   ·have he:relaxA p q a w=a:=by unfold relaxA;rw [if_neg hn];dsimp only;rw [if_neg hc]
    rw [he] at ih ⊢;exact ih
def fixA (n:Net) (p:Party) (q:Span→Int) (but:Int):Nat→List Int→List Int
 | 0,l=>l
 | k + 1,l=>if (passA n p q but l).2 then fixA n p q but k (passA n p q but l).1 else (passA n p q but l).1
def arrivals0 (n:Net) (frm start:Int):List Int:=(List.replicate n.places.toNat never).set frm.toNat start
def arrivalsL (n:Net) (p:Party) (q:Span→Int) (frm start but:Int):List Int:=fixA n p q but (fallM (arrivals0 n frm start) + 1) (arrivals0 n frm start)
end Go.Ab
namespace Go.Ab
open Go.RowKit Go.Proofs
attribute [local irreducible] WalkL Walk
theorem z1249 (n:Net) (p:Party) (frm start but:Int) (g:Nat) (q:Span→Int) (hq:∀ s,Fn Tryd.prog g [.agg s.row] (.i (q s))) (hn:n.Ok) (hfr:0≤frm∧frm<n.places) :
  FnS Tryd.prog 114 [.agg (walkCells n p),.i frm,.i start,.i but,.fn g []] 3 1 (intRows (arrivalsL n p q frm start but)):=by
 obtain⟨m,hm⟩:∃ m:Nat,n.places=m:=⟨n.places.toNat,by have:=hn.places.1;omega⟩
 have hpl:=hn.places
 refine z297 64 Tryd.call114 Tryd.func114 rfl (by decide) fun J=>?_
 simp only [go_sem,St.start,Tryd.ntmps114,Tryd.results114,walkCells]
 refine z25 ?_
 refine z3 fun K hK=>?_
 simp only [go_sem]
 apply hK
 clear hK K
 refine z25 ?_
 refine z3 fun K hK=>?_
 have h47:FnS Tryd.prog 92 [.sl [[.i 1073741824]],.i n.places] 3 1 (List.replicate m [.i 1073741824]):=by rw [hm];exact z1326 1073741824 m (by omega)
 simp only [go_sem]
 refine⟨_,.lentS (hdst:=rfl) (hf:=h47) (hd:=rfl) (hr:=by intro r hr d hd;rw [List.eq_of_mem_replicate hr] at hd;simp at hd;subst hd;rfl) (hfr:=rfl),?_⟩
 simp only [go_sem]
 apply hK
 clear hK K
 have hlt:frm.toNat<m:=by omega
 have hset:(List.replicate m [DV.int IntKind.i64 1073741824]).set frm.toNat [DV.i start]=intRows (arrivals0 n frm start):=by
  rw [show List.replicate m [DV.int IntKind.i64 1073741824]=intRows (List.replicate m 1073741824) from z134 m 1073741824,z48,arrivals0,hm];rfl
 have hget:(List.replicate m [DV.int IntKind.i64 1073741824])[frm.toNat]?=some [DV.int IntKind.i64 1073741824]:=by simp [hlt]
 repeat (first|refine nx ?_|(refine z3 fun K hK=>?_;simp only [go_sem,hlt,hget,hset,hfr.1];apply hK;clear hK K))
 refine z13 (fun (a:List Int × Bool × Nat)=>[(12,.box 12 0)]) (fun a=>[(12,some (.box [.d (.bool a.2.1)])),(20,some (.arr 3 1 (intRows a.1)))])
  (fun a=>a.1.length=m∧arrivalsL n p q frm start but=(if a.2.1 then fixA n p q but a.2.2 a.1 else a.1)∧(a.2.1=true→fallM a.1<a.2.2)) (fun a=>if a.2.1 then a.2.2 + 1 else 0) (arrivals0 n frm start,true,fallM (arrivals0 n frm start) + 1) ?_ ⟨by simp [arrivals0,hm],by simp [arrivalsL],fun _=>by simp⟩ ?_
 ·simp only [go_sem]
  refine weA ?_ ?_ <;> simp
 ·rintro⟨l,ch,k⟩ ⟨h1,h2,h3⟩
  dsimp only at h1 h2 h3
  simp only [go_sem]
  repeat (first|refine nx ?_|(refine z3 fun K hK=>?_;simp only [go_sem];apply hK;clear hK K))
  refine z6 rfl (fun hb=>?_) (fun hb=>?_)
  ·subst hb
   repeat (first|refine nx ?_|(refine z3 fun K hK=>?_;simp only [go_sem];apply hK;clear hK K))
   refine z3 fun K hK=>?_
   simp only [go_sem]
   refine⟨_,.given (hf:=z1292 n p but) (hd:=rfl) (ha:=rfl),?_⟩
   simp only [go_sem]
   apply hK
   clear hK K
   repeat (first|refine nx ?_|(refine z3 fun K hK=>?_;simp only [go_sem];apply hK;clear hK K))
   refine z573 (g:=.tmp 28) rfl (z1225 n p but (by have:=hn.paths;omega)) (by intro row hr;obtain⟨w,_,rfl⟩:=List.mem_map.1 hr;rfl) (fun _=>[]) (fun (a:List Int × Bool)=>[(12,some (.box [.d (.bool a.2)])),(20,some (.arr 3 1 (intRows a.1)))])
    (fun i a=>a=((waysL n p but).take i).foldl (relaxA p q) (l,false)) (fun _ _=>False) (l,false) ?_ rfl ?_ ?_ (fun _ _ h=>h.elim)
   ·simp only [go_sem]
    refine weA ?_ ?_ <;> simp
   ·intro i a row hi ha l2 m2
    simp only [List.getElem?_map,Option.map_eq_some_iff] at hi
    obtain⟨w,hw,rfl⟩:=hi
    have hx:=z163 (List.mem_of_getElem? hw)
    have hmem:=List.mem_of_getElem? hx
    have hlen:a.1.length=m:=by rw [ha,z180];exact h1
    have hf:=hn.frm w.2 hmem
    have ht:=hn.to w.2 hmem
    have g1:(intRows a.1)[w.2.to.toNat]?=some [.i (getI a.1 w.2.to)]:=z80 ht.1 (by omega)
    have g2:(intRows a.1)[w.2.frm.toNat]?=some [.i (getI a.1 w.2.frm)]:=z80 hf.1 (by omega)
    have g3:w.2.to.toNat<(intRows a.1).length:=by rw [z16];omega
    have g4:w.2.frm.toNat<(intRows a.1).length:=by rw [z16];omega
    have h50:=z1291 n p w.1 w.2 (getI a.1 w.2.frm) (q (spanW w.2 p)) hx (by have:=hn.opens w.2 hmem;omega)
    have h51:=z1331 n p w.1 w.2 hx
    have hnext:((waysL n p but).take (i + 1)).foldl (relaxA p q) (l,false)=relaxA p q a w:=by rw [ha];exact z37 _ _ _ _ _ hw
    simp only [go_sem,wayRow,Path.row]
    repeat (first|refine nx ?_|(refine z3 fun K hK=>?_;simp only [go_sem,g1,g2,g3,g4,ht.1,hf.1];apply hK;clear hK K))
    refine z6 rfl (fun hc=>?_) (fun hc=>?_)
    ·have hc:getI a.1 w.2.frm=never:=by simpa [never] using hc
     have he:relaxA p q a w=a:=by unfold relaxA;rw [if_pos hc]
     repeat (first|refine nx ?_|(refine z3 fun K hK=>?_;simp only [go_sem];apply hK;clear hK K))
     refine⟨rfl,relaxA p q a w,?_,hnext.symm⟩
     rw [he]
     simp only [go_sem]
     refine weA ?_ ?_ <;> simp
    ·have hnv:¬ getI a.1 w.2.frm=never:=by intro e;rw [e] at hc;simp [never] at hc
     repeat (first|refine nx ?_|(refine z3 fun K hK=>?_;simp only [go_sem];apply hK;clear hK K))
     refine z8 (by kernel_rfl) (by kernel_rfl) fun K hK=>?_
     simp only [go_sem,g1,g2,g3,g4,ht.1,hf.1]
     refine⟨_,.fn (hf:=h51) (hd:=rfl) (hr:=.inl rfl),?_⟩
     simp only [go_sem]
     refine⟨_,.fn (hf:=hq _) (hd:=rfl) (hr:=.inl rfl),?_⟩
     simp only [go_sem]
     refine⟨_,.fn (hf:=h50) (hd:=rfl) (hr:=.inl rfl),?_⟩
     simp only [go_sem]
     refine⟨by kernel_rfl,hK _ ?_⟩
     clear hK K
     repeat (first|refine nx ?_|(refine z3 fun K hK=>?_;simp only [go_sem,g1,g2,g3,g4,ht.1,hf.1];apply hK;clear hK K))
     refine z6 rfl (fun hc=>?_) (fun hc=>?_)
     ·have hc:arriveF w.2.opens (getI a.1 w.2.frm) (q (spanW w.2 p))<getI a.1 w.2.to:=by simpa using hc
      have he:relaxA p q a w=(a.1.set w.2.to.toNat (arriveF w.2.opens (getI a.1 w.2.frm) (q (spanW w.2 p))),true):=by unfold relaxA;rw [if_neg hnv];dsimp only;rw [if_pos hc]
      repeat (first|refine nx ?_|(refine z3 fun K hK=>?_;simp only [go_sem,g1,g2,g3,g4,ht.1,hf.1];apply hK;clear hK K))
      refine⟨rfl,relaxA p q a w,?_,hnext.symm⟩
      rw [he,z48]
      simp only [go_sem]
      refine weA ?_ ?_ <;> simp
     ·have hc:¬ arriveF w.2.opens (getI a.1 w.2.frm) (q (spanW w.2 p))<getI a.1 w.2.to:=by simpa using hc
      have he:relaxA p q a w=a:=by unfold relaxA;rw [if_neg hnv];dsimp only;rw [if_neg hc]
      repeat (first|refine nx ?_|(refine z3 fun K hK=>?_;simp only [go_sem];apply hK;clear hK K))
      refine⟨rfl,relaxA p q a w,?_,hnext.symm⟩
      rw [he]
      simp only [go_sem]
      refine weA ?_ ?_ <;> simp
   ·intro a ha
    rw [List.length_map,List.take_length] at ha
    have ha:a=passA n p q but l:=ha
    have hM:=z1097 p q (waysL n p but) (l,false) (fun w hw=>by
     have:=hn.to w.2 (List.mem_of_getElem? (z163 hw))
     show w.2.to.toNat<l.length;omega)
    rw [← show passA n p q but l=(waysL n p but).foldl (relaxA p q) (l,false) from rfl,← ha] at hM
    have hlen:a.1.length=m:=by rw [ha,passA,z180];exact h1
    have hk:=h3 rfl
    simp only [go_sem]
    repeat (first|refine nx ?_|(refine z3 fun K hK=>?_;simp only [go_sem];apply hK;clear hK K))
    refine z575 [12] ?_ ?_
    ·simp only [go_sem]
     refine weA ?_ ?_ <;> simp
    simp only [go_sem]
    repeat (first|refine nx ?_|(refine z3 fun K hK=>?_;simp only [go_sem];apply hK;clear hK K))
    refine⟨rfl,(a.1,a.2,k - 1),?_,⟨hlen,?_,fun hc=>?_⟩,?_⟩
    ·refine weA ?_ ?_ <;> simp
    ·obtain⟨k',rfl⟩:∃ k',k=k' + 1:=⟨k - 1,by omega⟩
     rw [h2,if_pos rfl,fixA,← ha];rfl
    ·have:=hM.2 rfl hc
     dsimp only at this ⊢
     omega
    ·dsimp only
     split <;> simp <;> omega
  ·subst hb
   repeat (first|refine nx ?_|(refine z3 fun K hK=>?_;simp only [go_sem];apply hK;clear hK K))
   simp only [go_sem]
   rw [h2]
   simp
end Go.Ab
namespace Go.Ab
open Go.RowKit Go.Proofs
attribute [local irreducible] WalkL Walk
def told1 (t:Int):Int:=if t=never then -1 else t
theorem z1032 (l:List Int) (i:Nat) (h:i<l.length):((l.take i).map told1++l.drop i).set i (told1 l[i])=(l.take (i + 1)).map told1++l.drop (i + 1):=by
 have h1:((l.take i).map told1).length=i:=by simp;omega
 rw [List.set_append_right _ _ (by omega),h1,Nat.sub_self,List.drop_eq_getElem_cons h,List.set_cons_zero,List.take_add_one,List.map_append]
 simp [h]
theorem z899 (l:List Int) (i:Nat) (h:i<l.length):((l.take i).map told1++l.drop i)[i]?=some l[i]:=by
 have h1:((l.take i).map told1).length=i:=by simp;omega
 rw [List.getElem?_append_right (by omega),h1]
 simp [h]
theorem z1125 (l:List Int) (i:Nat):((l.take i).map told1++l.drop i).length=l.length:=by simp;omega
theorem z1130 {α:Type} {l:List α} {i:Nat} {x:α} (h:l[i]?=some x):l.set i x=l:=by
 apply List.ext_getElem?
 intro k
 rw [List.getElem?_set]
 split
 ·rename_i e;subst e;rw [if_pos (List.getElem?_eq_some_iff.1 h).1,h]
 ·rfl
theorem z1250 (l:List Int) (hl:l.length<2 ^ 62):FnG Tryd.prog 113 [.arr 3 1 (intRows l)] [0] [.own 0] (.own 0) [.arr 3 1 (intRows (l.map told1))]:=by
 refine z35 19 Tryd.call113 Tryd.func113 rfl (by decide) [] [(0,0)] (by simp only [List.length_cons,List.length_nil];decide) (by kernel_rfl) fun J=>?_
 simp only [go_sem,St.startG,Tryd.ntmps113,Tryd.results113,List.map_cons,List.map_nil,List.range_succ]
 repeat (first|refine nx ?_|(refine z3 fun K hK=>?_;simp only [go_sem,z16];apply hK;clear hK K))
 refine z13 (fun (i:Nat)=>[(7,.d (.i i))]) (fun i=>[(19,some (.arr 3 1 (intRows ((l.take i).map told1++l.drop i))))]) (fun i=>i≤l.length) (fun i=>l.length - i) 0 ?_ (Nat.zero_le _) ?_
 ·simp only [go_sem]
  refine weA ?_ ?_ <;> simp
 ·intro i hi
  simp only [go_sem]
  repeat (first|refine nx ?_|(refine z3 fun K hK=>?_;simp only [go_sem];apply hK;clear hK K))
  refine z6 rfl (fun hb=>?_) (fun hb=>?_)
  ·have hlt:i<l.length:=by simpa using hb
   have hw:IntKind.i64.wrap ((i:Int) + 1)=((i + 1:Nat):Int):=by rw [z10 (by omega)];simp
   have hlen:=z1125 l i
   have g1:(intRows ((l.take i).map told1++l.drop i))[i]?=some [.i l[i]]:=by simp only [intRows,List.getElem?_map,z899 l i hlt,Option.map_some]
   have hn:=z1032 l i hlt
   repeat (first|refine nx ?_|(refine z3 fun K hK=>?_;simp only [go_sem,hlt,z16,hlen,g1,hw];apply hK;clear hK K))
   refine z6 rfl (fun hc=>?_) (fun hc=>?_)
   ·have hc:l[i]=never:=by simpa [never] using hc
    have ht:told1 l[i]=-1:=by unfold told1;rw [if_pos hc]
    rw [ht] at hn
    repeat (first|refine nx ?_|(refine z3 fun K hK=>?_;simp only [go_sem,hlt,z16,hlen,g1,hw];apply hK;clear hK K))
    refine⟨rfl,i + 1,?_,hlt,by omega⟩
    rw [← hn,← z48]
    refine weA ?_ ?_ <;> simp
   ·have hc:¬ l[i]=never:=by intro e;rw [e] at hc;simp [never] at hc
    have ht:told1 l[i]=l[i]:=by unfold told1;rw [if_neg hc]
    repeat (first|refine nx ?_|(refine z3 fun K hK=>?_;simp only [go_sem,hlt,z16,hlen,g1,hw];apply hK;clear hK K))
    refine⟨rfl,i + 1,?_,hlt,by omega⟩
    rw [ht,z1130 (z899 l i hlt)] at hn
    rw [← hn]
    refine weA ?_ ?_ <;> simp
  ·have he:i=l.length:=by have:¬ i<l.length:=by simpa using hb
                          omega
   subst he
   repeat (first|refine nx ?_|(refine z3 fun K hK=>?_;simp only [go_sem];apply hK;clear hK K))
   simp only [go_sem,List.take_length,List.drop_length]
end Go.Ab
namespace Go.Ab
open Go.RowKit Go.Proofs
attribute [local irreducible] WalkL Walk
structure Net.Small (n:Net):Prop where
 paths:n.paths.length<2 ^ 30
 opens:∀ x ∈ n.paths,x.opens.length<2 ^ 30
def wrong1 (n:Net) (x:Path):Bool :=
 !withinB x.frm 0 (n.places - 1) || (!withinB x.to 0 (n.places - 1) || (x.frm == x.to || (!withinB x.grade 1 6 || (!orderedB x.time 1 600 || (!orderedB x.snow 0 30 || decide ((x.opens.length:Int) > 6))))))
def wrongB (n:Net) (x:Path):Bool:=wrong1 n x || x.opens.any (fun s=>!orderedB s 0 2880)
theorem z1303 (n:Net) (x:Path) (hn:0≤n.places∧n.places<2 ^ 62) (hl:x.opens.length<2 ^ 30) :
  Fn Tryd.prog 109 [.agg x.row,.ptr [.fn 107 [.ptr n.cells 0]] 0,.ptr [.fn 108 []] 0] (.bool (wrongB n x)):=by
 refine z11 54 Tryd.call109 Tryd.func109 rfl (by decide) fun J=>?_
 simp only [go_sem,St.start,Tryd.ntmps109,Tryd.results109,Path.row,Net.cells]
 have h66:=fun s (_:s ∈ x.opens)=>z1304 s (.i 0)
 repeat (first|refine nx ?_|(refine z3 fun K hK=>?_;simp only [go_sem];apply hK;clear hK K))
 refine z18 [(4,.d (.bool (wrongB n x)))] [] ?_ ?_
 ·refine z3 fun K hK=>?_
  simp only [go_sem]
  refine⟨_,.lent (hf:=z1251 n x.frm hn) (hd:=rfl) (hr:=rfl),?_⟩
  simp only [go_sem]
  by_cases ho0:(!withinB x.frm 0 (n.places - 1))=true
  ·simp only [go_sem,ho0]
   apply hK
   clear hK K
   refine z7 ?_
   refine z4 ?_
   refine⟨rfl,?_⟩
   rw [show (wrongB n x)=(true) from by simp [wrongB,wrong1,ho0]]
   simp only [go_sem]
   refine weA ?_ ?_ <;> simp
  ·simp only [go_sem,ho0]
   refine⟨_,.lent (hf:=z1251 n x.to hn) (hd:=rfl) (hr:=rfl),?_⟩
   simp only [go_sem,ho0]
   by_cases ho1:(!withinB x.to 0 (n.places - 1))=true
   ·simp only [go_sem,ho0,ho1]
    apply hK
    clear hK K
    refine z7 ?_
    refine z4 ?_
    refine⟨rfl,?_⟩
    rw [show (wrongB n x)=(true) from by simp [wrongB,wrong1,ho0,ho1]]
    simp only [go_sem]
    refine weA ?_ ?_ <;> simp
   ·simp only [go_sem,ho0,ho1]
    by_cases ho2:(x.frm == x.to)=true
    ·simp only [go_sem,ho0,ho1,ho2]
     apply hK
     clear hK K
     refine z7 ?_
     refine z4 ?_
     refine⟨rfl,?_⟩
     rw [show (wrongB n x)=(true) from by simp [wrongB,wrong1,ho0,ho1,ho2]]
     simp only [go_sem]
     refine weA ?_ ?_ <;> simp
    ·simp only [go_sem,ho0,ho1,ho2]
     refine⟨_,.lent (hf:=z1020 x.grade 1 6) (hd:=rfl) (hr:=rfl),?_⟩
     simp only [go_sem,ho0,ho1,ho2]
     by_cases ho3:(!withinB x.grade 1 6)=true
     ·simp only [go_sem,ho0,ho1,ho2,ho3]
      apply hK
      clear hK K
      refine z7 ?_
      refine z4 ?_
      refine⟨rfl,?_⟩
      rw [show (wrongB n x)=(true) from by simp [wrongB,wrong1,ho0,ho1,ho2,ho3]]
      simp only [go_sem]
      refine weA ?_ ?_ <;> simp
     ·simp only [go_sem,ho0,ho1,ho2,ho3]
      refine⟨_,.lent (hf:=z1243 x.time 1 600) (hd:=rfl) (hr:=rfl),?_⟩
      simp only [go_sem,ho0,ho1,ho2,ho3]
      by_cases ho4:(!orderedB x.time 1 600)=true
      ·simp only [go_sem,ho0,ho1,ho2,ho3,ho4]
       apply hK
       clear hK K
       refine z7 ?_
       refine z4 ?_
       refine⟨rfl,?_⟩
       rw [show (wrongB n x)=(true) from by simp [wrongB,wrong1,ho0,ho1,ho2,ho3,ho4]]
       simp only [go_sem]
       refine weA ?_ ?_ <;> simp
      ·simp only [go_sem,ho0,ho1,ho2,ho3,ho4]
       refine⟨_,.lent (hf:=z1243 x.snow 0 30) (hd:=rfl) (hr:=rfl),?_⟩
       simp only [go_sem,ho0,ho1,ho2,ho3,ho4]
       by_cases ho5:(!orderedB x.snow 0 30)=true
       ·simp only [go_sem,ho0,ho1,ho2,ho3,ho4,ho5]
        apply hK
        clear hK K
        refine z7 ?_
        refine z4 ?_
        refine⟨rfl,?_⟩
        rw [show (wrongB n x)=(true) from by simp [wrongB,wrong1,ho0,ho1,ho2,ho3,ho4,ho5]]
        simp only [go_sem]
        refine weA ?_ ?_ <;> simp
       ·simp only [go_sem,ho0,ho1,ho2,ho3,ho4,ho5]
        by_cases ho6:(decide ((x.opens.length:Int) > 6))=true
        ·simp only [go_sem,ho0,ho1,ho2,ho3,ho4,ho5,ho6]
         apply hK
         clear hK K
         refine z7 ?_
         refine z4 ?_
         refine⟨rfl,?_⟩
         rw [show (wrongB n x)=(true) from by simp [wrongB,wrong1,ho0,ho1,ho2,ho3,ho4,ho5,ho6]]
         simp only [go_sem]
         refine weA ?_ ?_ <;> simp
        ·simp only [go_sem,ho0,ho1,ho2,ho3,ho4,ho5,ho6]
         refine⟨_,.lent (hf:=z1302 x.opens 108 [] _ h66 (by omega)) (hd:=rfl) (hr:=rfl),?_⟩
         simp only [go_sem,ho0,ho1,ho2,ho3,ho4,ho5,ho6]
         apply hK
         clear hK K
         refine z7 ?_
         refine z4 ?_
         refine⟨rfl,?_⟩
         rw [show (wrongB n x)=(x.opens.any (fun s=>!orderedB s 0 2880)) from by simp [wrongB,wrong1,ho0,ho1,ho2,ho3,ho4,ho5,ho6]]
         simp only [go_sem]
         refine weA ?_ ?_ <;> simp
 ·simp only [go_sem]
  repeat (first|refine nx ?_|(refine z3 fun K hK=>?_;simp only [go_sem];apply hK;clear hK K))
  simp only [go_sem]
def badNet (n:Net):Bool:=!withinB n.places 1 12 || (decide ((n.paths.length:Int) > 24) || n.paths.any (wrongB n))
def checkF (n:Net):Int:=if badNet n then 10 else 0
theorem z20 {x lo hi:Int}:withinB x lo hi=true↔lo≤x∧x≤hi:=by simp [withinB]
theorem z1278 (n:Net) (hs:n.Small):Fn Tryd.prog 90 [.agg n.cells] (.i (checkF n)):=by
 refine z11 24 Tryd.call90 Tryd.func90 rfl (by decide) fun J=>?_
 simp only [go_sem,St.start,Tryd.ntmps90,Tryd.results90,Net.cells]
 have h68:withinB n.places 1 12=true→∀ x ∈ n.paths,Fn Tryd.prog 109 [.agg x.row,.ptr [.fn 107 [.ptr n.cells 0]] 0,.ptr [.fn 108 []] 0] (.bool (wrongB n x)):=fun h x hx =>
  z1303 n x (by have:=z20.1 h;omega) (hs.opens x hx)
 have h70:=fun h=>z1301 n.paths 109 [.ptr [.fn 107 [.ptr n.cells 0]] 0,.ptr [.fn 108 []] 0] (wrongB n) (h68 h) (Nat.lt_trans hs.paths (by decide))
 repeat (first|refine nx ?_|(refine z3 fun K hK=>?_;simp only [go_sem];apply hK;clear hK K))
 refine z18 [(23,.d (.bool (badNet n)))] [] ?_ ?_
 ·refine z3 fun K hK=>?_
  simp only [go_sem]
  refine⟨_,.lent (hf:=z1020 n.places 1 12) (hd:=rfl) (hr:=rfl),?_⟩
  simp only [go_sem]
  by_cases ho0:(!withinB n.places 1 12)=true
  ·simp only [go_sem,ho0]
   apply hK
   clear hK K
   refine z7 ?_
   refine z4 ?_
   refine⟨rfl,?_⟩
   rw [show (badNet n)=(true) from by simp [badNet,ho0]]
   simp only [go_sem]
   refine weA ?_ ?_ <;> simp
  ·simp only [go_sem,ho0]
   by_cases ho1:(decide ((n.paths.length:Int) > 24))=true
   ·simp only [go_sem,ho0,ho1]
    apply hK
    clear hK K
    refine z7 ?_
    refine z4 ?_
    refine⟨rfl,?_⟩
    rw [show (badNet n)=(true) from by simp [badNet,ho0,ho1]]
    simp only [go_sem]
    refine weA ?_ ?_ <;> simp
   ·simp only [go_sem,ho0,ho1]
    refine⟨_,.lent (hf:=h70 (by simpa using ho0)) (hd:=rfl) (hr:=rfl),?_⟩
    simp only [go_sem,ho0,ho1]
    apply hK
    clear hK K
    refine z7 ?_
    refine z4 ?_
    refine⟨rfl,?_⟩
    rw [show (badNet n)=(n.paths.any (wrongB n)) from by simp [badNet,ho0,ho1]]
    simp only [go_sem]
    refine weA ?_ ?_ <;> simp
 ·simp only [go_sem]
  repeat (first|refine nx ?_|(refine z3 fun K hK=>?_;simp only [go_sem];apply hK;clear hK K))
  refine z6 rfl (fun hc=>?_) (fun hc=>?_)
  ·repeat (first|refine nx ?_|(refine z3 fun K hK=>?_;simp only [go_sem];apply hK;clear hK K))
   simp only [go_sem,checkF,hc]
  ·repeat (first|refine nx ?_|(refine z3 fun K hK=>?_;simp only [go_sem];apply hK;clear hK K))
   simp only [go_sem,checkF,hc]
end Go.Ab
namespace Go.Ab
open Go.RowKit Go.Proofs
set_option maxHeartbeats 4000000
attribute [local irreducible] WalkL Walk
theorem z99 {α:Type} {q:α→Bool} {l:List α} {i:Nat} {x:α} (h:l[i]?=some x) (h0:(l.take i).any q=false) (hx:q x=false):(l.take (i + 1)).any q=false:=by
 rw [List.take_add_one,h,List.any_append,h0];simp [hx]
theorem z139 {α:Type} {q:α→Bool} {l:List α} {i:Nat} {x:α} (h:l[i]?=some x) (hx:q x=true):l.any q=true:=List.any_eq_true.2 ⟨x,List.mem_of_getElem? h,hx⟩
theorem z1285 (n:Net) (hs:n.Small):Fn Tryd.prog 58 [.agg n.cells] (.i (checkF n)):=by
 refine z11 85 Tryd.call58 Tryd.func58 rfl (by decide) fun J=>?_
 simp only [go_sem,St.start,Tryd.ntmps58,Tryd.results58,Net.cells]
 repeat (first|refine nx ?_|(refine z3 fun K hK=>?_;simp only [go_sem];apply hK;clear hK K))
 refine z18 [(15,.d (.bool (!withinB n.places 1 12 || decide ((n.paths.length:Int) > 24))))] [] ?_ ?_
 ·refine z3 fun K hK=>?_
  simp only [go_sem]
  refine⟨_,.lent (hf:=z1242 n.places 1 12) (hd:=rfl) (hr:=rfl),?_⟩
  simp only [go_sem]
  by_cases ho0:(!withinB n.places 1 12)=true
  ·simp only [go_sem,ho0]
   apply hK
   clear hK K
   refine z7 ?_
   refine z4 ?_
   refine⟨rfl,?_⟩
   rw [show (!withinB n.places 1 12 || decide ((n.paths.length:Int) > 24))=(true) from by simp [ho0]]
   simp only [go_sem]
   refine weA ?_ ?_ <;> simp
  ·simp only [go_sem,ho0]
   apply hK
   clear hK K
   refine z7 ?_
   refine z4 ?_
   refine⟨rfl,?_⟩
   rw [show (!withinB n.places 1 12 || decide ((n.paths.length:Int) > 24))=(decide ((n.paths.length:Int) > 24)) from by simp [ho0]]
   simp only [go_sem]
   refine weA ?_ ?_ <;> simp
 simp only [go_sem]
 refine z6 rfl (fun hc=>?_) (fun hc=>?_)
 ·repeat (first|refine nx ?_|(refine z3 fun K hK=>?_;simp only [go_sem];apply hK;clear hK K))
  have hb:badNet n=true:=by unfold badNet;rw [← Bool.or_assoc,hc];rfl
  simp only [go_sem,checkF,hb]
 ·rw [Bool.or_eq_false_iff] at hc
  have hpl:=z20.1 (show withinB n.places 1 12=true by simpa using hc.1)
  have hbad:badNet n=n.paths.any (wrongB n):=by unfold badNet;rw [← Bool.or_assoc,hc.1,hc.2];rfl
  repeat (first|refine nx ?_|(refine z3 fun K hK=>?_;simp only [go_sem];apply hK;clear hK K))
  refine z13 (fun (i:Nat)=>[(3,.d (.i i))]) (fun _=>[]) (fun i=>i≤n.paths.length∧(n.paths.take i).any (wrongB n)=false) (fun i=>n.paths.length - i) 0 ?_ ⟨Nat.zero_le _,rfl⟩ ?_
  ·simp only [go_sem]
   refine weA ?_ ?_ <;> simp
  ·intro i ⟨hi,hall⟩
   have hbound:=hs.paths
   simp only [go_sem]
   repeat (first|refine nx ?_|(refine z3 fun K hK=>?_;simp only [go_sem];apply hK;clear hK K))
   refine z6 rfl (fun hb=>?_) (fun hb=>?_)
   ·have hlt:i<n.paths.length:=by simpa using hb
    have hw:IntKind.i64.wrap ((i:Int) + 1)=((i + 1:Nat):Int):=by rw [z10 (by omega)];simp
    obtain⟨x,hx⟩:∃ x,n.paths[i]?=some x:=⟨_,List.getElem?_eq_getElem hlt⟩
    have hxo:=hs.opens x (List.mem_of_getElem? hx)
    have hp62:-(2 ^ 62)≤n.places∧n.places<2 ^ 62:=by omega
    repeat (first|refine nx ?_|(refine z3 fun K hK=>?_;simp only [go_sem,hx,List.getElem?_map,Path.row];apply hK;clear hK K))
    refine z18 [(70,.d (.bool (wrong1 n x)))] [] ?_ ?_
    ·refine z3 fun K hK=>?_
     simp only [go_sem]
     refine⟨_,.lent (hf:=z1289 n x.frm hp62) (hd:=rfl) (hr:=rfl),?_⟩
     simp only [go_sem]
     by_cases ho0:(!withinB x.frm 0 (n.places - 1))=true
     ·simp only [go_sem,ho0]
      apply hK
      clear hK K
      refine z7 ?_
      refine z4 ?_
      refine⟨rfl,?_⟩
      rw [show (wrong1 n x)=(true) from by simp [wrong1,ho0]]
      simp only [go_sem]
      refine weA ?_ ?_ <;> simp
     ·simp only [go_sem,ho0]
      refine⟨_,.lent (hf:=z1289 n x.to hp62) (hd:=rfl) (hr:=rfl),?_⟩
      simp only [go_sem,ho0]
      by_cases ho1:(!withinB x.to 0 (n.places - 1))=true
      ·simp only [go_sem,ho0,ho1]
       apply hK
       clear hK K
       refine z7 ?_
       refine z4 ?_
       refine⟨rfl,?_⟩
       rw [show (wrong1 n x)=(true) from by simp [wrong1,ho0,ho1]]
       simp only [go_sem]
       refine weA ?_ ?_ <;> simp
      ·simp only [go_sem,ho0,ho1]
       by_cases ho2:(x.frm == x.to)=true
       ·simp only [go_sem,ho0,ho1,ho2]
        apply hK
        clear hK K
        refine z7 ?_
        refine z4 ?_
        refine⟨rfl,?_⟩
        rw [show (wrong1 n x)=(true) from by simp [wrong1,ho0,ho1,ho2]]
        simp only [go_sem]
        refine weA ?_ ?_ <;> simp
       ·simp only [go_sem,ho0,ho1,ho2]
        refine⟨_,.lent (hf:=z1242 x.grade 1 6) (hd:=rfl) (hr:=rfl),?_⟩
        simp only [go_sem,ho0,ho1,ho2]
        by_cases ho3:(!withinB x.grade 1 6)=true
        ·simp only [go_sem,ho0,ho1,ho2,ho3]
         apply hK
         clear hK K
         refine z7 ?_
         refine z4 ?_
         refine⟨rfl,?_⟩
         rw [show (wrong1 n x)=(true) from by simp [wrong1,ho0,ho1,ho2,ho3]]
         simp only [go_sem]
         refine weA ?_ ?_ <;> simp
        ·simp only [go_sem,ho0,ho1,ho2,ho3]
         refine⟨_,.lent (hf:=z1244 x.time 1 600) (hd:=rfl) (hr:=rfl),?_⟩
         simp only [go_sem,ho0,ho1,ho2,ho3]
         by_cases ho4:(!orderedB x.time 1 600)=true
         ·simp only [go_sem,ho0,ho1,ho2,ho3,ho4]
          apply hK
          clear hK K
          refine z7 ?_
          refine z4 ?_
          refine⟨rfl,?_⟩
          rw [show (wrong1 n x)=(true) from by simp [wrong1,ho0,ho1,ho2,ho3,ho4]]
          simp only [go_sem]
          refine weA ?_ ?_ <;> simp
         ·simp only [go_sem,ho0,ho1,ho2,ho3,ho4]
          refine⟨_,.lent (hf:=z1244 x.snow 0 30) (hd:=rfl) (hr:=rfl),?_⟩
          simp only [go_sem,ho0,ho1,ho2,ho3,ho4]
          by_cases ho5:(!orderedB x.snow 0 30)=true
          ·simp only [go_sem,ho0,ho1,ho2,ho3,ho4,ho5]
           apply hK
           clear hK K
           refine z7 ?_
           refine z4 ?_
           refine⟨rfl,?_⟩
           rw [show (wrong1 n x)=(true) from by simp [wrong1,ho0,ho1,ho2,ho3,ho4,ho5]]
           simp only [go_sem]
           refine weA ?_ ?_ <;> simp
          ·simp only [go_sem,ho0,ho1,ho2,ho3,ho4,ho5]
           apply hK
           clear hK K
           refine z7 ?_
           refine z4 ?_
           refine⟨rfl,?_⟩
           rw [show (wrong1 n x)=(decide ((x.opens.length:Int) > 6)) from by simp [wrong1,ho0,ho1,ho2,ho3,ho4,ho5]]
           simp only [go_sem]
           refine weA ?_ ?_ <;> simp
    simp only [go_sem]
    refine z6 rfl (fun hc1=>?_) (fun hc1=>?_)
    ·repeat (first|refine nx ?_|(refine z3 fun K hK=>?_;simp only [go_sem];apply hK;clear hK K))
     have hb:badNet n=true:=by rw [hbad];exact z139 hx (by unfold wrongB;rw [hc1];rfl)
     simp only [go_sem,checkF,hb]
    ·repeat (first|refine nx ?_|(refine z3 fun K hK=>?_;simp only [go_sem];apply hK;clear hK K))
     refine z13 (fun (k:Nat)=>[(5,.d (.i k))]) (fun _=>[]) (fun k=>k≤x.opens.length∧(x.opens.take k).any (fun s=>!orderedB s 0 2880)=false) (fun k=>x.opens.length - k) 0 ?_ ⟨Nat.zero_le _,rfl⟩ ?_
     ·simp only [go_sem]
      refine weA ?_ ?_ <;> simp
     ·intro k ⟨hk,hkall⟩
      simp only [go_sem]
      repeat (first|refine nx ?_|(refine z3 fun K hK=>?_;simp only [go_sem];apply hK;clear hK K))
      refine z6 rfl (fun hb=>?_) (fun hb=>?_)
      ·have hlk:k<x.opens.length:=by simpa using hb
       have hwk:IntKind.i64.wrap ((k:Int) + 1)=((k + 1:Nat):Int):=by rw [z10 (by omega)];simp
       obtain⟨s,hs1⟩:∃ s,x.opens[k]?=some s:=⟨_,List.getElem?_eq_getElem hlk⟩
       repeat (first|refine nx ?_|(refine z3 fun K hK=>?_;simp only [go_sem,hs1,List.getElem?_map,Span.row];(repeat (first|(refine⟨_,.lent (hf:=z1244 s 0 2880) (hd:=rfl) (hr:=rfl),?_⟩;simp only [go_sem,hs1,List.getElem?_map,Span.row])|(refine⟨_,.given (hf:=z1244 s 0 2880) (hd:=rfl) (ha:=rfl),?_⟩;simp only [go_sem,hs1,List.getElem?_map,Span.row])));apply hK;clear hK K))
       refine z6 rfl (fun hc2=>?_) (fun hc2=>?_)
       ·repeat (first|refine nx ?_|(refine z3 fun K hK=>?_;simp only [go_sem];apply hK;clear hK K))
        have hb:badNet n=true:=by rw [hbad];exact z139 hx (by unfold wrongB;rw [z139 hs1 hc2];simp)
        simp only [go_sem,checkF,hb]
       ·repeat (first|refine nx ?_|(refine z3 fun K hK=>?_;simp only [go_sem,hwk];apply hK;clear hK K))
        refine⟨rfl,k + 1,?_,⟨hlk,z99 hs1 hkall hc2⟩,by omega⟩
        refine weA ?_ ?_ <;> simp
      ·have he:k=x.opens.length:=by (have:¬ k<x.opens.length:=by simpa using hb);omega
       subst he
       rw [List.take_length] at hkall
       repeat (first|refine nx ?_|(refine z3 fun K hK=>?_;simp only [go_sem,hw];apply hK;clear hK K))
       refine⟨rfl,i + 1,?_,⟨hlt,z99 hx hall (by unfold wrongB;rw [hc1,hkall];rfl)⟩,by omega⟩
       refine weA ?_ ?_ <;> simp
   ·have he:i=n.paths.length:=by (have:¬ i<n.paths.length:=by simpa using hb);omega
    subst he
    rw [List.take_length] at hall
    repeat (first|refine nx ?_|(refine z3 fun K hK=>?_;simp only [go_sem];apply hK;clear hK K))
    have hb:badNet n=false:=by rw [hbad,hall]
    simp only [go_sem,checkF,hb]
end Go.Ab
namespace Go.Ab
open Go.RowKit Go.Proofs
set_option maxHeartbeats 4000000
attribute [local irreducible] WalkL Walk
def badParty (p:Party):Bool:=!withinB p.grade 1 6 || (!orderedB p.pace 50 300 || !withinB p.load 0 40)
def checkPartyF (n:Net) (p:Party):Int:=if badNet n then 10 else if badParty p then 11 else 0
theorem z1358 (n:Net) (p:Party) (hs:n.Small):Fn Tryd.prog 23 [.agg n.cells,.agg p.cells] (.i (checkPartyF n p)):=by
 refine z11 27 Tryd.call23 Tryd.func23 rfl (by decide) fun J=>?_
 simp only [go_sem,St.start,Tryd.ntmps23,Tryd.results23,Net.cells,Party.cells]
 repeat (first|refine nx ?_|(refine z3 fun K hK=>?_;simp only [go_sem];(repeat (first|(refine⟨_,.lent (hf:=z1285 n hs) (hd:=rfl) (hr:=rfl),?_⟩;simp only [go_sem])|(refine⟨_,.given (hf:=z1285 n hs) (hd:=rfl) (ha:=rfl),?_⟩;simp only [go_sem])));apply hK;clear hK K))
 by_cases hb:badNet n=true
 ·try simp only [go_sem,checkF,hb]
  refine z9 rfl ?_
  repeat (first|refine nx ?_|(refine z3 fun K hK=>?_;simp only [go_sem];apply hK;clear hK K))
  simp only [go_sem,checkPartyF,hb]
 ·try simp only [go_sem,checkF,hb]
  refine z5 rfl ?_
  repeat (first|refine nx ?_|(refine z3 fun K hK=>?_;simp only [go_sem];apply hK;clear hK K))
  refine z18 [(26,.d (.bool (badParty p)))] [] ?_ ?_
  ·refine z3 fun K hK=>?_
   simp only [go_sem]
   refine⟨_,.lent (hf:=z1242 p.grade 1 6) (hd:=rfl) (hr:=rfl),?_⟩
   simp only [go_sem]
   by_cases ho0:(!withinB p.grade 1 6)=true
   ·simp only [go_sem,ho0]
    apply hK
    clear hK K
    refine z7 ?_
    refine z4 ?_
    refine⟨rfl,?_⟩
    rw [show (badParty p)=(true) from by simp [badParty,ho0]]
    simp only [go_sem]
    refine weA ?_ ?_ <;> simp
   ·simp only [go_sem,ho0]
    refine⟨_,.lent (hf:=z1244 p.pace 50 300) (hd:=rfl) (hr:=rfl),?_⟩
    simp only [go_sem,ho0]
    by_cases ho1:(!orderedB p.pace 50 300)=true
    ·simp only [go_sem,ho0,ho1]
     apply hK
     clear hK K
     refine z7 ?_
     refine z4 ?_
     refine⟨rfl,?_⟩
     rw [show (badParty p)=(true) from by simp [badParty,ho0,ho1]]
     simp only [go_sem]
     refine weA ?_ ?_ <;> simp
    ·simp only [go_sem,ho0,ho1]
     refine⟨_,.lent (hf:=z1242 p.load 0 40) (hd:=rfl) (hr:=rfl),?_⟩
     simp only [go_sem,ho0,ho1]
     apply hK
     clear hK K
     refine z7 ?_
     refine z4 ?_
     refine⟨rfl,?_⟩
     rw [show (badParty p)=(!withinB p.load 0 40) from by simp [badParty,ho0,ho1]]
     simp only [go_sem]
     refine weA ?_ ?_ <;> simp
  simp only [go_sem]
  refine z6 rfl (fun hc=>?_) (fun hc=>?_)
  ·repeat (first|refine nx ?_|(refine z3 fun K hK=>?_;simp only [go_sem];apply hK;clear hK K))
   simp only [go_sem,checkPartyF,hb,hc]
  ·repeat (first|refine nx ?_|(refine z3 fun K hK=>?_;simp only [go_sem];apply hK;clear hK K))
   simp only [go_sem,checkPartyF,hb,hc]
theorem z1333 (n:Net) (p:Party) (hs:n.Small):Fn Tryd.prog 64 [.agg n.cells,.agg p.cells] (.tup [.agg (walkCells n p),.i (checkPartyF n p)]):=by
 refine z11 35 Tryd.call64 Tryd.func64 rfl (by decide) fun J=>?_
 simp only [go_sem,St.start,Tryd.ntmps64,Tryd.results64,Net.cells,Party.cells,walkCells]
 repeat (first|refine nx ?_|(refine z3 fun K hK=>?_;simp only [go_sem];(repeat (first|(refine⟨_,.lent (hf:=z1278 n hs) (hd:=rfl) (hr:=rfl),?_⟩;simp only [go_sem])|(refine⟨_,.given (hf:=z1278 n hs) (hd:=rfl) (ha:=rfl),?_⟩;simp only [go_sem])));apply hK;clear hK K))
 by_cases hb:badNet n=true
 ·try simp only [go_sem,checkF,hb]
  refine z9 rfl ?_
  repeat (first|refine nx ?_|(refine z3 fun K hK=>?_;simp only [go_sem];apply hK;clear hK K))
  simp only [go_sem,checkPartyF,hb,walkCells]
 ·try simp only [go_sem,checkF,hb]
  refine z5 rfl ?_
  repeat (first|refine nx ?_|(refine z3 fun K hK=>?_;simp only [go_sem];apply hK;clear hK K))
  refine z18 [(32,.d (.bool (badParty p)))] [] ?_ ?_
  ·refine z3 fun K hK=>?_
   simp only [go_sem]
   refine⟨_,.lent (hf:=z1020 p.grade 1 6) (hd:=rfl) (hr:=rfl),?_⟩
   simp only [go_sem]
   by_cases ho0:(!withinB p.grade 1 6)=true
   ·simp only [go_sem,ho0]
    apply hK
    clear hK K
    refine z7 ?_
    refine z4 ?_
    refine⟨rfl,?_⟩
    rw [show (badParty p)=(true) from by simp [badParty,ho0]]
    simp only [go_sem]
    refine weA ?_ ?_ <;> simp
   ·simp only [go_sem,ho0]
    refine⟨_,.lent (hf:=z1243 p.pace 50 300) (hd:=rfl) (hr:=rfl),?_⟩
    simp only [go_sem,ho0]
    by_cases ho1:(!orderedB p.pace 50 300)=true
    ·simp only [go_sem,ho0,ho1]
     apply hK
     clear hK K
     refine z7 ?_
     refine z4 ?_
     refine⟨rfl,?_⟩
     rw [show (badParty p)=(true) from by simp [badParty,ho0,ho1]]
     simp only [go_sem]
     refine weA ?_ ?_ <;> simp
    ·simp only [go_sem,ho0,ho1]
     refine⟨_,.lent (hf:=z1020 p.load 0 40) (hd:=rfl) (hr:=rfl),?_⟩
     simp only [go_sem,ho0,ho1]
     apply hK
     clear hK K
     refine z7 ?_
     refine z4 ?_
     refine⟨rfl,?_⟩
     rw [show (badParty p)=(!withinB p.load 0 40) from by simp [badParty,ho0,ho1]]
     simp only [go_sem]
     refine weA ?_ ?_ <;> simp
  simp only [go_sem]
  refine z6 rfl (fun hc=>?_) (fun hc=>?_)
  ·repeat (first|refine nx ?_|(refine z3 fun K hK=>?_;simp only [go_sem];apply hK;clear hK K))
   simp only [go_sem,checkPartyF,hb,hc,walkCells]
  ·repeat (first|refine nx ?_|(refine z3 fun K hK=>?_;simp only [go_sem];apply hK;clear hK K))
   simp only [go_sem,checkPartyF,hb,hc,walkCells]
theorem z1294 (n:Net) (x:Int) (hn:0≤n.places∧n.places<2 ^ 62):Fn Tryd.prog 125 [.i x,.ptr n.cells 0] (.bool (!withinB x 0 (n.places - 1))):=by
 refine z11 10 Tryd.call125 Tryd.func125 rfl (by decide) fun J=>?_
 simp only [go_sem,St.start,Tryd.ntmps125,Tryd.results125,Net.cells]
 have hw:IntKind.i64.wrap (n.places - 1)=n.places - 1:=z10 (by omega)
 repeat (first|refine nx ?_|(refine z3 fun K hK=>?_;simp only [go_sem,hw];(repeat (first|(refine⟨_,.lent (hf:=z1020 _ _ _) (hd:=rfl) (hr:=rfl),?_⟩;simp only [go_sem,hw])|(refine⟨_,.given (hf:=z1020 _ _ _) (hd:=rfl) (ha:=rfl),?_⟩;simp only [go_sem,hw])));apply hK;clear hK K))
 simp only [go_sem]
theorem z1293 (x:Int):Fn Tryd.prog 126 [.i x] (.bool (!withinB x 0 2880)):=by
 refine z11 6 Tryd.call126 Tryd.func126 rfl (by decide) fun J=>?_
 simp only [go_sem,St.start,Tryd.ntmps126,Tryd.results126]
 repeat (first|refine nx ?_|(refine z3 fun K hK=>?_;simp only [go_sem];(repeat (first|(refine⟨_,.lent (hf:=z1020 _ _ _) (hd:=rfl) (hr:=rfl),?_⟩;simp only [go_sem])|(refine⟨_,.given (hf:=z1020 _ _ _) (hd:=rfl) (ha:=rfl),?_⟩;simp only [go_sem])));apply hK;clear hK K))
 simp only [go_sem]
def badAsk (n:Net) (places minutes:List Int):Bool:=places.any (fun x=>!withinB x 0 (n.places - 1)) || minutes.any (fun x=>!withinB x 0 2880)
def openF (n:Net) (p:Party) (places minutes:List Int):Int:=if badNet n then 10 else if badParty p then 11 else if badAsk n places minutes then 1 else 0
theorem z116 {n:Net} (h:¬ badNet n=true):1≤n.places∧n.places≤12:=by
 have:badNet n=false:=by simpa using h
 unfold badNet at this
 rw [Bool.or_eq_false_iff] at this
 exact z20.1 (by simpa using this.1)
theorem z1300 (n:Net) (p:Party) (places minutes:List Int) (hs:n.Small) (h1:places.length<2 ^ 62) (h2:minutes.length<2 ^ 62) :
  Fn Tryd.prog 112 [.agg n.cells,.agg p.cells,.agg [.sl (intRows places),.sl (intRows minutes)]] (.tup [.agg (walkCells n p),.i (openF n p places minutes)]):=by
 refine z11 31 Tryd.call112 Tryd.func112 rfl (by decide) fun J=>?_
 simp only [go_sem,St.start,Tryd.ntmps112,Tryd.results112,Net.cells,Party.cells]
 have h73:=z1333 n p hs
 by_cases hb:badNet n=true
 ·repeat (first|refine nx ?_|(refine z3 fun K hK=>?_;simp only [go_sem,checkPartyF,hb,walkCells];(repeat (first|(refine⟨_,.lent (hf:=h73) (hd:=rfl) (hr:=rfl),?_⟩;simp only [go_sem,checkPartyF,hb,walkCells])|(refine⟨_,.given (hf:=h73) (hd:=rfl) (ha:=rfl),?_⟩;simp only [go_sem,checkPartyF,hb,walkCells])));apply hK;clear hK K))
  try simp only [go_sem,checkPartyF,hb]
  refine z9 rfl ?_
  repeat (first|refine nx ?_|(refine z3 fun K hK=>?_;simp only [go_sem,walkCells];apply hK;clear hK K))
  simp only [go_sem,openF,hb,walkCells]
 ·by_cases hp:badParty p=true
  ·repeat (first|refine nx ?_|(refine z3 fun K hK=>?_;simp only [go_sem,checkPartyF,hb,hp,walkCells];(repeat (first|(refine⟨_,.lent (hf:=h73) (hd:=rfl) (hr:=rfl),?_⟩;simp only [go_sem,checkPartyF,hb,hp,walkCells])|(refine⟨_,.given (hf:=h73) (hd:=rfl) (ha:=rfl),?_⟩;simp only [go_sem,checkPartyF,hb,hp,walkCells])));apply hK;clear hK K))
   try simp only [go_sem,checkPartyF,hb,hp]
   refine z9 rfl ?_
   repeat (first|refine nx ?_|(refine z3 fun K hK=>?_;simp only [go_sem,walkCells];apply hK;clear hK K))
   simp only [go_sem,openF,hb,hp,walkCells]
  ·have hg:=z116 hb
   have h84:=fun x (_:x ∈ places)=>z1294 n x (by omega)
   have h85:=fun x (_:x ∈ minutes)=>z1293 x
   repeat (first|refine nx ?_|(refine z3 fun K hK=>?_;simp only [go_sem,checkPartyF,hb,hp,walkCells];(repeat (first|(refine⟨_,.lent (hf:=h73) (hd:=rfl) (hr:=rfl),?_⟩;simp only [go_sem,checkPartyF,hb,hp,walkCells])|(refine⟨_,.given (hf:=h73) (hd:=rfl) (ha:=rfl),?_⟩;simp only [go_sem,checkPartyF,hb,hp,walkCells])));apply hK;clear hK K))
   try simp only [go_sem,checkPartyF,hb,hp,walkCells]
   refine z5 rfl ?_
   repeat (first|refine nx ?_|(refine z3 fun K hK=>?_;simp only [go_sem];apply hK;clear hK K))
   refine z18 [(28,.d (.bool (badAsk n places minutes)))] [] ?_ ?_
   ·refine z3 fun K hK=>?_
    simp only [go_sem]
    refine⟨_,.lent (hf:=z1279 places 125 [.ptr n.cells 0] _ h84 h1) (hd:=rfl) (hr:=rfl),?_⟩
    simp only [go_sem]
    by_cases ho0:(places.any (fun x=>!withinB x 0 (n.places - 1)))=true
    ·simp only [go_sem,ho0]
     apply hK
     clear hK K
     refine z7 ?_
     refine z4 ?_
     refine⟨rfl,?_⟩
     rw [show (badAsk n places minutes)=(true) from by simp [badAsk,ho0]]
     simp only [go_sem]
     refine weA ?_ ?_ <;> simp
    ·simp only [go_sem,ho0]
     refine⟨_,.lent (hf:=z1279 minutes 126 [] _ h85 h2) (hd:=rfl) (hr:=rfl),?_⟩
     simp only [go_sem,ho0]
     apply hK
     clear hK K
     refine z7 ?_
     refine z4 ?_
     refine⟨rfl,?_⟩
     rw [show (badAsk n places minutes)=(minutes.any (fun x=>!withinB x 0 2880)) from by simp [badAsk,ho0]]
     simp only [go_sem]
     refine weA ?_ ?_ <;> simp
   simp only [go_sem]
   refine z6 rfl (fun hc=>?_) (fun hc=>?_)
   ·repeat (first|refine nx ?_|(refine z3 fun K hK=>?_;simp only [go_sem];apply hK;clear hK K))
    simp only [go_sem,openF,hb,hp,hc,walkCells]
   ·repeat (first|refine nx ?_|(refine z3 fun K hK=>?_;simp only [go_sem];apply hK;clear hK K))
    simp only [go_sem,openF,hb,hp,hc,walkCells]
theorem z466 {l:List Int} {i:Nat} {x:Int} (h:l[i]?=some x):(intRows l)[i]?=some [.i x]:=by simp [intRows,h]
end Go.Ab
namespace Go.Ab
open Go.RowKit Go.Proofs
set_option maxHeartbeats 4000000
set_option maxRecDepth 20000
attribute [local irreducible] WalkL Walk
def iterL {α:Type} (f:α→α):Nat→α→α
 | 0,a=>a
 | k + 1,a=>f (iterL f k a)
def relaxB (p:Party) (but:Int) (l:List Int) (w:Path × Nat):Bool:=((w.2:Int) != but) && (decide (w.1.grade≤p.grade) && decide (getI l w.1.frm<1073741824))
def relaxT (p:Party) (high:Bool) (but:Int) (l:List Int) (w:Path × Nat):List Int :=
 if relaxB p but l w then l.set w.1.to.toNat (min (getI l w.1.to) (stepF w.1 p (getI l w.1.frm) high)) else l
def passT (n:Net) (p:Party) (high:Bool) (but:Int) (l:List Int):List Int:=n.paths.zipIdx.foldl (relaxT p high but) l
def tableL (n:Net) (p:Party) (frm start:Int) (high:Bool) (but:Int):List Int:=iterL (passT n p high but) n.places.toNat (arrivals0 n frm start)
end Go.Ab
namespace Go.Ab
open Go.RowKit Go.Proofs
set_option maxHeartbeats 4000000
set_option maxRecDepth 20000
attribute [local irreducible] WalkL Walk
def sureF (n:Net) (p:Party) (frm start to but:Int):Int:=getI (tableL n p frm start true but) to
def shown1 (t:Int):Int:=if t ≥ never then -1 else t
def untilL (d:Int) (l:List Int):List Int:=(l.zipIdx.filter fun x=>decide (x.1≤d)).map fun x=>(x.2:Int)
end Go.Ab
namespace Go.Ab
open Go.RowKit Go.Proofs
set_option maxHeartbeats 4000000
set_option maxRecDepth 20000
attribute [local irreducible] WalkL Walk
theorem z145 {s:Span} {lo hi:Int}:orderedB s lo hi=true↔lo≤s.lo∧s.lo≤s.hi∧s.hi≤hi:=by simp [orderedB]
structure Path.Good (n:Net) (x:Path):Prop where
 frm:0≤x.frm∧x.frm<n.places
 to:0≤x.to∧x.to<n.places
 ne:x.frm≠x.to
 grade:1≤x.grade∧x.grade≤6
 time:1≤x.time.lo∧x.time.lo≤x.time.hi∧x.time.hi≤600
 snow:0≤x.snow.lo∧x.snow.lo≤x.snow.hi∧x.snow.hi≤30
 len:x.opens.length≤6
 opens:∀ s ∈ x.opens,0≤s.lo∧s.lo≤s.hi∧s.hi≤2880
structure Net.Good (n:Net):Prop where
 places:1≤n.places∧n.places≤12
 paths:n.paths.length≤24
 path:∀ x ∈ n.paths,x.Good n
theorem z563 {n:Net} {x:Path}:wrongB n x=false↔x.Good n:=by
 unfold wrongB wrong1
 simp only [Bool.or_eq_false_iff,Bool.not_eq_false',z20,z145,beq_eq_false_iff_ne,decide_eq_false_iff_not,List.any_eq_false,Bool.not_eq_true']
 constructor
 ·rintro⟨⟨h1,h2,h3,h4,h5,h6,h7⟩,h8⟩
  exact⟨by omega,by omega,h3,h4,h5,h6,by omega,fun s hs=>z145.1 (by simpa using h8 s hs)⟩
 ·rintro⟨h1,h2,h3,h4,h5,h6,h7,h8⟩
  exact⟨⟨by omega,by omega,h3,h4,h5,h6,by omega⟩,fun s hs=>by simpa using z145.2 (h8 s hs)⟩
theorem z154 {n:Net}:¬ badNet n=true↔n.Good:=by
 have e:¬ badNet n=true↔badNet n=false:=by simp
 rw [e]
 unfold badNet
 simp only [Bool.or_eq_false_iff,Bool.not_eq_false',z20,decide_eq_false_iff_not,List.any_eq_false]
 constructor
 ·rintro⟨h1,h2,h3⟩
  exact⟨h1,by omega,fun x hx=>z563.1 (by simpa using h3 x hx)⟩
 ·rintro⟨h1,h2,h3⟩
  exact⟨h1,by omega,fun x hx=>by simpa using z563.2 (h3 x hx)⟩
theorem Net.Good.ok {n:Net} (h:n.Good):n.Ok :=
 ⟨by have:=h.places;omega,by have:=h.paths;omega,fun x hx=>(h.path x hx).frm,fun x hx=>(h.path x hx).to,fun x hx=>by have:=(h.path x hx).len;omega⟩
theorem Net.Good.hi {n:Net} (h:n.Good):∀ x ∈ n.paths,∀ s ∈ x.opens,s.hi≤2880:=fun x hx s hs=>((h.path x hx).opens s hs).2.2
structure Party.Good (p:Party):Prop where
 grade:1≤p.grade∧p.grade≤6
 pace:50≤p.pace.lo∧p.pace.lo≤p.pace.hi∧p.pace.hi≤300
 load:0≤p.load∧p.load≤40
theorem z176 {p:Party}:¬ badParty p=true↔p.Good:=by
 have e:¬ badParty p=true↔badParty p=false:=by simp
 rw [e]
 unfold badParty
 simp only [Bool.or_eq_false_iff,Bool.not_eq_false',z20,z145]
 exact⟨fun ⟨h1,h2,h3⟩=>⟨h1,h2,h3⟩,fun ⟨h1,h2,h3⟩=>⟨h1,h2,h3⟩⟩
structure Opened (n:Net) (p:Party) (places minutes:List Int):Prop where
 net:n.Good
 party:p.Good
 place:∀ x ∈ places,0≤x∧x<n.places
 minute:∀ x ∈ minutes,0≤x∧x≤2880
theorem z891 {n:Net} {places minutes:List Int}:¬ badAsk n places minutes=true↔(∀ x ∈ places,0≤x∧x<n.places)∧∀ x ∈ minutes,0≤x∧x≤2880:=by
 have e:¬ badAsk n places minutes=true↔badAsk n places minutes=false:=by simp
 rw [e]
 unfold badAsk
 simp only [Bool.or_eq_false_iff,List.any_eq_false]
 constructor
 ·rintro⟨h1,h2⟩
  exact⟨fun x hx=>by have:=z20.1 (by simpa using h1 x hx);omega,fun x hx=>z20.1 (by simpa using h2 x hx)⟩
 ·rintro⟨h1,h2⟩
  exact⟨fun x hx=>by simpa using z20.2 (by have:=h1 x hx;omega),fun x hx=>by simpa using z20.2 (h2 x hx)⟩
theorem z1151 {n:Net} {p:Party} {places minutes:List Int}:openF n p places minutes=0↔Opened n p places minutes:=by
 unfold openF
 constructor
 ·intro h
  split at h
  ·cases h
  ·rename_i h1
   split at h
   ·cases h
   ·rename_i h2
    split at h
    ·cases h
    ·rename_i h3
     exact⟨z154.1 h1,z176.1 h2,(z891.1 h3).1,(z891.1 h3).2⟩
 ·rintro⟨h1,h2,h3,h4⟩
  rw [if_neg (z154.2 h1),if_neg (z176.2 h2),if_neg (z891.2 ⟨h3,h4⟩)]
theorem z914 (n:Net) (p:Party) (q:Span→Int) (but:Int):∀ (k:Nat) (l:List Int),(fixA n p q but k l).length=l.length
 | 0,_=>rfl
 | k + 1,l=>by
  unfold fixA
  split
  ·rw [z914 n p q but k,passA,z180]
  ·rw [passA,z180]
theorem z292 (n:Net) (p:Party) (q:Span→Int) (frm start but:Int):(arrivalsL n p q frm start but).length=n.places.toNat:=by
 rw [arrivalsL,z914];simp [arrivals0]
def spanHi (s:Span):Int:=s.hi
def spanLo (s:Span):Int:=s.lo
def arriveL (n:Net) (p:Party) (frm start:Int):List Int × List Int × Int :=
 if openF n p [frm] [start]=0 then ((arrivalsL n p spanHi frm start (-1)).map told1,(arrivalsL n p spanLo frm start (-1)).map told1,0) else ([],[],openF n p [frm] [start])
theorem z1340 (n:Net) (p:Party) (frm start:Int) (hs:n.Small):Fn Tryd.prog 91 [.agg n.cells,.agg p.cells,.i frm,.i start]
  (.tup [.sl (intRows (arriveL n p frm start).1),.sl (intRows (arriveL n p frm start).2.1),.i (arriveL n p frm start).2.2]):=by
 have h41:=z1300 n p [frm] [start] hs (by simp) (by simp)
 refine z11 36 Tryd.call91 Tryd.func91 rfl (by decide) fun J=>?_
 simp only [go_sem,St.start,Tryd.ntmps91,Tryd.results91,Net.cells,Party.cells]
 repeat (first|refine nx ?_|(refine z3 fun K hK=>?_;simp only [go_sem,walkCells];(repeat (first|(refine⟨_,.lent (hf:=h41) (hd:=rfl) (hr:=rfl),?_⟩;simp only [go_sem,walkCells])|(refine⟨_,.given (hf:=h41) (hd:=rfl) (ha:=rfl),?_⟩;simp only [go_sem,walkCells])));apply hK;clear hK K))
 refine z6 rfl (fun hc=>?_) (fun hc=>?_)
 ·have hc:¬ openF n p [frm] [start]=0:=by simpa using hc
  repeat (first|refine nx ?_|(refine z3 fun K hK=>?_;simp only [go_sem];apply hK;clear hK K))
  simp only [go_sem,arriveL,hc]
  rfl
 ·have hc:openF n p [frm] [start]=0:=by simpa using hc
  have ho:=z1151.1 hc
  have hfr:=ho.place frm (by simp)
  have hpl:=ho.net.places
  have h42:=z1249 n p frm start (-1) 115 spanHi (fun s=>z1299 s) ho.net.ok hfr
  have h42':=z1249 n p frm start (-1) 116 spanLo (fun s=>z1298 s) ho.net.ok hfr
  have h59:=z1250 (arrivalsL n p spanHi frm start (-1)) (by rw [z292];omega)
  have h59':=z1250 (arrivalsL n p spanLo frm start (-1)) (by rw [z292];omega)
  repeat (first|refine nx ?_|(refine z3 fun K hK=>?_;simp only [go_sem];apply hK;clear hK K))
  refine z8 (by kernel_rfl) (by kernel_rfl) fun K hK=>?_
  simp only [go_sem]
  refine⟨_,.fnS (hdst:=rfl) (hf:=h42) (hd:=rfl) (hr:=.inr rfl) (hfr:=rfl),?_⟩
  simp only [go_sem]
  refine⟨_,.inPlace (n:=29) (hf:=h59) (hn:=rfl) (hb:=rfl) (hla:=rfl) (ha:=z59 (by repeat (first|exact trivial|refine And.intro ?_ ?_|exact z75 rfl|exact z50 rfl rfl))) (hx:=by first|decide|simp [AV.refsAll,AV.refs,AV.refs.AV.refss]),?_⟩
  simp only [go_sem]
  refine⟨_,.fnS (hdst:=rfl) (hf:=h42') (hd:=rfl) (hr:=.inr rfl) (hfr:=rfl),?_⟩
  simp only [go_sem]
  refine⟨_,.inPlace (n:=34) (hf:=h59') (hn:=rfl) (hb:=rfl) (hla:=rfl) (ha:=z59 (by repeat (first|exact trivial|refine And.intro ?_ ?_|exact z75 rfl|exact z50 rfl rfl))) (hx:=by first|decide|simp [AV.refsAll,AV.refs,AV.refs.AV.refss]),?_⟩
  simp only [go_sem]
  refine⟨by kernel_rfl,hK _ ?_⟩
  clear hK K
  repeat (first|refine nx ?_|(refine z3 fun K hK=>?_;simp only [go_sem];apply hK;clear hK K))
  simp only [go_sem,arriveL,hc]
end Go.Ab
namespace Go.Ab
open Go.RowKit Go.Proofs
set_option maxHeartbeats 4000000
set_option maxRecDepth 20000
attribute [local irreducible] WalkL Walk
def refArriveL (n:Net) (p:Party) (frm start:Int):List Int × List Int × Int :=
 if openF n p [frm] [start]=0 then ((tableL n p frm start true (-1)).map shown1,(tableL n p frm start false (-1)).map shown1,0) else ([],[],openF n p [frm] [start])
def latestL (n:Net) (p:Party) (frm to deadline:Int):Int × Int :=
 if openF n p [frm,to] [deadline]=0 then (if getI (deadlinesL n p to deadline) frm=-1 then (0,3) else (getI (deadlinesL n p to deadline) frm,0)) else (0,openF n p [frm,to] [deadline])
def findDown (q:Int→Bool):Nat→Option Nat
 | 0=>none
 | k + 1=>if q k then some k else findDown q k
def refLatestL (n:Net) (p:Party) (frm to deadline:Int):Int × Int :=
 if openF n p [frm,to] [deadline]=0 then (match findDown (fun t=>decide (sureF n p frm t to (-1)≤deadline)) (deadline + 1).toNat with
  | some t=>((t:Int),0)
  | none=>(0,3)) else (0,openF n p [frm,to] [deadline])
end Go.Ab
namespace Go.Ab
open Go.RowKit Go.Proofs
set_option maxHeartbeats 4000000
set_option maxRecDepth 20000
attribute [local irreducible] WalkL Walk
def walkF (n:Net) (p:Party) (i:Int):Span × Int :=
 if checkPartyF n p=0 then (if withinB i 0 (n.paths.length - 1) then (match n.paths[i.toNat]? with
  | some x=>if x.grade≤p.grade then (spanW x p,0) else (⟨0,0⟩,3)
  | none=>(⟨0,0⟩,1)) else (⟨0,0⟩,1)) else (⟨0,0⟩,checkPartyF n p)
theorem z1357 (n:Net) (p:Party) (i:Int) (hs:n.Small):Fn Tryd.prog 27 [.agg n.cells,.agg p.cells,.i i] (.tup [.agg (walkF n p i).1.row,.i (walkF n p i).2]):=by
 have h73:=z1333 n p hs
 refine z11 39 Tryd.call27 Tryd.func27 rfl (by decide) fun J=>?_
 simp only [go_sem,St.start,Tryd.ntmps27,Tryd.results27,Net.cells,Party.cells]
 repeat (first|refine nx ?_|(refine z3 fun K hK=>?_;simp only [go_sem,walkCells];(repeat (first|(refine⟨_,.lent (hf:=h73) (hd:=rfl) (hr:=rfl),?_⟩;simp only [go_sem,walkCells])|(refine⟨_,.given (hf:=h73) (hd:=rfl) (ha:=rfl),?_⟩;simp only [go_sem,walkCells])));apply hK;clear hK K))
 refine z6 rfl (fun hc=>?_) (fun hc=>?_)
 ·have hc:¬ checkPartyF n p=0:=by simpa using hc
  repeat (first|refine nx ?_|(refine z3 fun K hK=>?_;simp only [go_sem];apply hK;clear hK K))
  simp only [go_sem,walkF,hc]
  rfl
 ·have hop:checkPartyF n p=0:=by simpa using hc
  have hb:=hs.paths
  have hw:IntKind.i64.wrap ((n.paths.length:Int) - 1)=n.paths.length - 1:=z10 (by omega)
  repeat (first|refine nx ?_|(refine z3 fun K hK=>?_;simp only [go_sem,hw];(repeat (first|(refine⟨_,.lent (hf:=z1020 i 0 (n.paths.length - 1)) (hd:=rfl) (hr:=rfl),?_⟩;simp only [go_sem,hw])|(refine⟨_,.given (hf:=z1020 i 0 (n.paths.length - 1)) (hd:=rfl) (ha:=rfl),?_⟩;simp only [go_sem,hw])));apply hK;clear hK K))
  refine z6 rfl (fun hc=>?_) (fun hc=>?_)
  ·have hc:withinB i 0 (n.paths.length - 1)=false:=by simpa using hc
   repeat (first|refine nx ?_|(refine z3 fun K hK=>?_;simp only [go_sem];apply hK;clear hK K))
   simp only [go_sem,walkF,hop,hc]
   rfl
  ·have hwi:withinB i 0 (n.paths.length - 1)=true:=by simpa using hc
   have hii:=z20.1 hwi
   obtain⟨j,rfl⟩:∃ j:Nat,i=j:=⟨i.toNat,by omega⟩
   obtain⟨x,hx⟩:∃ x,n.paths[j]?=some x:=⟨_,List.getElem?_eq_getElem (show j<n.paths.length by omega)⟩
   have h74:=z1332 n p j x hx
   have h51:=z1331 n p j x hx
   repeat (first|refine nx ?_|(refine z3 fun K hK=>?_;simp only [go_sem];(repeat (first|(refine⟨_,.lent (hf:=h74) (hd:=rfl) (hr:=rfl),?_⟩;simp only [go_sem])|(refine⟨_,.given (hf:=h74) (hd:=rfl) (ha:=rfl),?_⟩;simp only [go_sem])));apply hK;clear hK K))
   refine z6 rfl (fun hc=>?_) (fun hc=>?_)
   ·have hg:¬ x.grade≤p.grade:=by simpa using hc
    repeat (first|refine nx ?_|(refine z3 fun K hK=>?_;simp only [go_sem];apply hK;clear hK K))
    simp only [go_sem,walkF,hop,hwi,Int.toNat_natCast,hx,hg]
    rfl
   ·have hg:x.grade≤p.grade:=by simpa using hc
    repeat (first|refine nx ?_|(refine z3 fun K hK=>?_;simp only [go_sem,Span.row];(repeat (first|(refine⟨_,.lent (hf:=h51) (hd:=rfl) (hr:=rfl),?_⟩;simp only [go_sem,Span.row])|(refine⟨_,.given (hf:=h51) (hd:=rfl) (ha:=rfl),?_⟩;simp only [go_sem,Span.row])));apply hK;clear hK K))
    simp only [go_sem,walkF,hop,hwi,Int.toNat_natCast,hx,hg,Span.row]
def selL (q:Nat→Bool) (k:Nat):List Int:=((List.range k).filter q).map fun (i:Nat)=>(i:Int)
theorem z1048 (q:Nat→Bool) (k:Nat):selL q (k + 1)=selL q k++if q k then [(k:Int)] else []:=by
 simp only [selL,List.range_succ,List.filter_append,List.map_append]
 congr 1
 by_cases h:q k <;> simp [h]
theorem z1132 (q:Nat→Bool) (k:Nat):(selL q k).length≤k:=by
 unfold selL
 rw [List.length_map]
 exact Nat.le_trans (List.length_filter_le _ _) (by simp)
def vitalL (n:Net) (p:Party) (frm start to deadline:Int):List Int × Int :=
 if openF n p [frm,to] [start,deadline]=0 then (if getI (arrivalsL n p spanHi frm start (-1)) to > deadline then ([],3) else (selL (fun (i:Nat)=>decide (getI (arrivalsL n p spanHi frm start (i:Int)) to > deadline)) n.paths.length,0))
 else ([],openF n p [frm,to] [start,deadline])
def refVitalL (n:Net) (p:Party) (frm start to deadline:Int):List Int × Int :=
 if openF n p [frm,to] [start,deadline]=0 then (if sureF n p frm start to (-1) > deadline then ([],3) else (selL (fun (i:Nat)=>decide (sureF n p frm start to (i:Int) > deadline)) n.paths.length,0))
 else ([],openF n p [frm,to] [start,deadline])
def withinL (n:Net) (p:Party) (frm start deadline:Int):List Int × List Int × Int :=
 if openF n p [frm] [start,deadline]=0 then (untilL deadline (arrivalsL n p spanHi frm start (-1)),untilL deadline (arrivalsL n p spanLo frm start (-1)),0) else ([],[],openF n p [frm] [start,deadline])
def refWithinL (n:Net) (p:Party) (frm start deadline:Int):List Int × List Int × Int :=
 if openF n p [frm] [start,deadline]=0 then (untilL deadline (tableL n p frm start true (-1)),untilL deadline (tableL n p frm start false (-1)),0) else ([],[],openF n p [frm] [start,deadline])
end Go.Ab
namespace Go.Ab
open Go.RowKit Go.Proofs
set_option maxHeartbeats 4000000
set_option maxRecDepth 20000
attribute [local irreducible] WalkL Walk
theorem z1287 (c:Int) (m:Nat) (h:m<2 ^ 30):FnS Tryd.prog 92 [.sl [[.i c]],.i m] 3 1 (intRows (List.replicate m c)):=by
 rw [← z134];exact z1326 c m h
def relaxS (p:Party) (now next:List Int) (w:Nat × Path):List Int :=
 if getI now w.2.frm=never then next else next.set w.2.to.toNat (min (getI next w.2.to) (arriveF w.2.opens (getI now w.2.frm) (spanW w.2 p).hi))
def nextS (n:Net) (p:Party) (now:List Int):List Int:=(waysL n p (-1)).foldl (relaxS p now) (List.replicate n.places.toNat never)
def nowS (n:Net) (p:Party) (frm start:Int) (k:Nat):List Int:=iterL (nextS n p) k (arrivals0 n frm start)
def stepsL (n:Net) (p:Party) (frm start:Int) (k:Nat):List (List Int):=(List.range (k + 1)).map (nowS n p frm start)
def slRows (ls:List (List Int)):List (List DV):=ls.map fun l=>[.sl (intRows l)]
end Go.Ab
namespace Go.Ab
open Go.RowKit Go.Proofs
set_option maxHeartbeats 8000000
set_option maxRecDepth 40000
attribute [local irreducible] WalkL Walk
def relaxBy (p:Party) (cur next:List Int) (w:Nat × Path):List Int :=
 next.set w.2.frm.toNat (max (getI next w.2.frm) (latestF w.2.opens (wr (getI cur w.2.to - (spanW w.2 p).hi))))
def byNext (n:Net) (p:Party) (cur:List Int):List Int:=(waysL n p (-1)).foldl (relaxBy p cur) (List.replicate n.places.toNat (-1))
def byL (n:Net) (p:Party) (to arr:Int) (k:Nat):List Int:=iterL (byNext n p) k (deadlines0 n to arr)
theorem z861 (p:Party) (cur next:List Int) (w:Nat × Path):(relaxBy p cur next w).length=next.length:=by unfold relaxBy;simp
abbrev RSt:=List Int × Int × Int
def fitsR (p:Party) (cur:List Int) (s:RSt) (w:Nat × Path):Bool:=(w.2.frm == s.2.1) && decide (arriveF w.2.opens s.2.2 (spanW w.2 p).hi≤getI cur w.2.to)
def stepR (n:Net) (p:Party) (cur:List Int) (s:RSt):RSt:=match (waysL n p (-1)).find? (fitsR p cur s) with
 | some w=>(s.1++[(w.1:Int)],w.2.to,arriveF w.2.opens s.2.2 (spanW w.2 p).hi)
 | none=>s
def routeD (n:Net) (p:Party) (to arr:Int):Nat→RSt→RSt
 | 0,s=>s
 | k + 1,s=>routeD n p to arr k (stepR n p (byL n p to arr k) s)
def fewest (n:Net) (p:Party) (frm start to arr:Int):Int:=idxFrom (fun l=>getI l to == arr) (stepsL n p frm start (n.places.toNat - 1)) 0
def routeL (n:Net) (p:Party) (frm start to:Int):List Int × Int × Int :=
 if openF n p [frm,to] [start]=0 then
  (let arr:=getI (arrivalsL n p spanHi frm start (-1)) to
   if arr=never then ([],0,3) else ((routeD n p to arr (fewest n p frm start to arr).toNat ([],frm,start)).1,arr,0))
 else ([],0,openF n p [frm,to] [start])
def bySt (n:Net) (p:Party) (to arr:Int) (k:Nat):List (Option Blk):=(List.range (k + 1)).map fun i=>some (.arr 3 1 (intRows (byL n p to arr i)))
def byRow (K k:Nat):List AV:=(List.range (k + 1)).map (fun i=>AV.own (i + 162))++List.replicate (K - k) (.d (.sl []))
end Go.Ab
namespace Go.Ab
open Go.RowKit Go.Proofs
set_option maxHeartbeats 4000000
set_option maxRecDepth 20000
attribute [local irreducible] WalkL Walk
theorem z332 {a b:List Int} (hl:a.length=b.length) (h:a.take a.length=b.take a.length):a=b:=by
 rw [List.take_length] at h
 rw [h,hl,List.take_length]
def exN:Net:=⟨4,[⟨0,1,2,⟨100,120⟩,⟨0,0⟩,[⟨0,2880⟩]⟩,⟨1,2,3,⟨60,90⟩,⟨4,10⟩,[⟨0,2880⟩]⟩,⟨2,3,2,⟨60,60⟩,⟨0,0⟩,[⟨400,700⟩]⟩,⟨0,3,2,⟨300,400⟩,⟨0,0⟩,[⟨0,2880⟩]⟩,⟨3,0,2,⟨200,240⟩,⟨0,0⟩,[⟨0,2880⟩]⟩]⟩
def exP:Party:=⟨3,0,⟨100,100⟩⟩
theorem z1344:Fn Tryd.prog 80 [] (.tup [.agg exN.cells,.agg exP.cells]):=by
 refine z11 26 Tryd.call80 Tryd.func80 rfl (by decide) fun J=>?_
 simp only [go_sem,St.start,Tryd.ntmps80,Tryd.results80]
 repeat (first|refine nx ?_|(refine z3 fun K hK=>?_;simp only [go_sem];(repeat (first|(refine⟨_,.lent (hf:=z1325 _ _) (hd:=rfl) (hr:=rfl),?_⟩;simp only [go_sem])|(refine⟨_,.given (hf:=z1325 _ _) (hd:=rfl) (ha:=rfl),?_⟩;simp only [go_sem])));apply hK;clear hK K))
 simp only [go_sem,exN,exP,Net.cells,Party.cells,Path.row,Span.row]
theorem z915:exN.Small:=⟨by decide,by intro x hx;revert hx x;decide⟩
end Go.Ab
namespace Go.Ab
open Go.RowKit Go.Proofs
set_option maxHeartbeats 4000000
set_option maxRecDepth 20000
attribute [local irreducible] WalkL Walk
def farB (n:Net):Bool:=decide ((n.paths.length:Int) > 26) || (n.paths.any (fun x=>decide ((x.opens.length:Int) > 8)) || (!badNet n && (decide (n.places > 6) || decide ((n.paths.length:Int) > 10))))
structure Trip where
 frm:Int
 to:Int
 start:Int
 deadline:Int
 route:List Int
 path:Int
def Trip.row (x:Trip):List DV:=[.i x.frm,.i x.to,.i x.start,.i x.deadline,.sl (intRows x.route),.i x.path]
def fitsB (n:Net) (p:Party) (x:Trip):Bool :=
 !farB n && (checkPartyF n p == 0 && (withinB x.frm 0 (n.places - 1) && (withinB x.to 0 (n.places - 1) && (withinB x.start 0 2880 && withinB x.deadline 0 2880))))
theorem z430 {n:Net} {p:Party}:checkPartyF n p=0↔n.Good∧p.Good:=by
 unfold checkPartyF
 constructor
 ·intro h
  split at h
  ·cases h
  ·rename_i h1
   split at h
   ·cases h
   ·rename_i h2;exact⟨z154.1 h1,z176.1 h2⟩
 ·rintro⟨h1,h2⟩
  rw [if_neg (z154.2 h1),if_neg (z176.2 h2)]
end Go.Ab
/- Plain laws of layer 1: paths,arrivals,deadlines. -/
namespace Go.Ab
open Go.RowKit Go.Proofs
set_option maxHeartbeats 1000000
theorem z122 (t b:Int):∀ (l:List Span) (f:Int),l.foldl (fun f s=>if t≤s.hi then min f (max t s.lo) else f) f≤b↔f≤b∨∃ s ∈ l,t≤s.hi∧max t s.lo≤b
 | [],f=>by simp
 | s::l,f=>by
  rw [List.foldl_cons,z122 t b l]
  simp only [List.mem_cons,exists_eq_or_imp]
  split
  ·rename_i h
   constructor
   ·rintro (h1 | h1)
    ·by_cases h2:f≤b
     ·exact .inl h2
     ·exact .inr (.inl ⟨h,by omega⟩)
    ·exact .inr (.inr h1)
   ·rintro (h1 | h1 | h1)
    ·exact .inl (by omega)
    ·exact .inl (by omega)
    ·exact .inr h1
  ·rename_i h
   constructor
   ·rintro (h1 | h1)
    ·exact .inl h1
    ·exact .inr (.inr h1)
   ·rintro (h1 | h1 | h1)
    ·exact .inl h1
    ·omega
    ·exact .inr h1
theorem z220 (c b:Int):∀ (l:List Span) (f:Int),c≤l.foldl (fun last s=>if s.lo≤b then max last (min s.hi b) else last) f↔c≤f∨∃ s ∈ l,s.lo≤b∧c≤min s.hi b
 | [],f=>by simp
 | s::l,f=>by
  rw [List.foldl_cons,z220 c b l]
  simp only [List.mem_cons,exists_eq_or_imp]
  split
  ·rename_i h
   constructor
   ·rintro (h1 | h1)
    ·by_cases h2:c≤f
     ·exact .inl h2
     ·exact .inr (.inl ⟨h,by omega⟩)
    ·exact .inr (.inr h1)
   ·rintro (h1 | h1 | h1)
    ·exact .inl (by omega)
    ·exact .inl (by omega)
    ·exact .inr h1
  ·rename_i h
   constructor
   ·rintro (h1 | h1)
    ·exact .inl h1
    ·exact .inr (.inr h1)
   ·rintro (h1 | h1 | h1)
    ·exact .inl h1
    ·omega
    ·exact .inr h1
theorem z886 (opens:List Span) (t:Int):enterF opens t≤never:=(z122 t never opens _).2 (.inl (by decide))
theorem z916 {opens:List Span} {t:Int} (h:enterF opens t<never):t≤enterF opens t:=by
 have h1:=(z122 t (enterF opens t) opens 1073741824).1 (Int.le_refl _)
 rcases h1 with h1 | ⟨s,_,_,h1⟩
 ·have:(1073741824:Int)=never:=rfl
  omega
 ·omega
theorem z731 {opens:List Span} {t:Int} (h:0≤t):0≤enterF opens t:=by
 by_cases h1:enterF opens t<never
 ·have:=z916 h1;omega
 ·have:(1073741824:Int)=never:=rfl
  omega
def okTime (d:Int):Prop:=1≤d∧d≤6000
theorem z748 {opens:List Span} {t d:Int} (ht:0≤t) (hd:okTime d):arriveF opens t d=if enterF opens t + d > 2880 then never else enterF opens t + d:=by
 have h1:=z731 (opens:=opens) ht
 have h2:=z886 opens t
 have hv:never=1073741824:=rfl
 have hw:wr (enterF opens t + d)=enterF opens t + d:=z10 (by unfold okTime at hd;omega)
 unfold arriveF
 rw [hw]
 rfl
theorem z158 {opens:List Span} {t d b:Int} (ht:0≤t) (hd:okTime d) (hb:b≤2880):arriveF opens t d≤b↔∃ s ∈ opens,t≤s.hi∧max t s.lo≤b - d:=by
 have hv:never=1073741824:=rfl
 unfold okTime at hd
 rw [z748 ht hd]
 have h:=z122 t (b - d) opens 1073741824
 change enterF opens t≤b - d↔_ at h
 constructor
 ·intro h1
  split at h1
  ·omega
  ·rcases h.1 (by omega) with h2 | h2
   ·omega
   ·exact h2
 ·intro h1
  have:=h.2 (.inr h1)
  rw [if_neg (by omega)]
  omega
theorem z461 {opens:List Span} {t d b:Int} (ht:0≤t) (hd:okTime d) (hb:b≤2880) (hb0:-1≤b):t≤latestF opens (wr (b - d))↔arriveF opens t d≤b:=by
 have hw:wr (b - d)=b - d:=z10 (by unfold okTime at hd;omega)
 rw [hw,z158 ht hd hb]
 have h:=z220 t (b - d) opens (-1)
 change t≤latestF opens (b - d)↔_ at h
 rw [h]
 constructor
 ·rintro (h1 | ⟨s,h1,h2,h3⟩)
  ·omega
  ·exact⟨s,h1,by omega,by omega⟩
 ·rintro⟨s,h1,h2,h3⟩
  exact .inr ⟨s,h1,by omega,by omega⟩
theorem z124 {opens:List Span} {t d:Int} (ht:0≤t) (hd:okTime d):arriveF opens t d=never∨(t + d≤arriveF opens t d∧arriveF opens t d≤2880):=by
 have hv:never=1073741824:=rfl
 unfold okTime at hd
 rw [z748 ht hd]
 split
 ·exact .inl rfl
 ·have:=z916 (opens:=opens) (t:=t) (by omega)
  exact .inr (by omega)
theorem z892 {opens:List Span} {t t' d:Int} (ht:0≤t) (hle:t≤t') (hd:okTime d):arriveF opens t d≤arriveF opens t' d:=by
 have hv:never=1073741824:=rfl
 rcases z124 (opens:=opens) (t:=t') (by omega) hd with h | ⟨h1,h2⟩
 ·rw [h]
  rcases z124 (opens:=opens) ht hd with h' | h'
  ·omega
  ·omega
 ·obtain⟨s,q1,q2,q3⟩:=(z158 (b:=arriveF opens t' d) (by omega) hd h2).1 (Int.le_refl _)
  exact (z158 ht hd h2).2 ⟨s,q1,by omega,by omega⟩
theorem z1036 {t pace snow load:Int} (ht:1≤t∧t≤600) (hp:50≤pace∧pace≤300) (hs:0≤snow∧snow≤30) (hl:0≤load∧load≤40) :
  timeW t pace snow load=(t * pace * (100 + 5 * snow + load) + 9999) / 10000∧okTime (timeW t pace snow load):=by
 have h1:50≤t * pace:=by have:=Int.mul_le_mul ht.1 hp.1 (by omega) (by omega);omega
 have h2:t * pace≤180000:=by have:=Int.mul_le_mul ht.2 hp.2 (by omega) (by omega);omega
 have h3:100≤100 + 5 * snow + load:=by omega
 have h4:100 + 5 * snow + load≤290:=by omega
 have h5:5000≤t * pace * (100 + 5 * snow + load):=by have:=Int.mul_le_mul h1 h3 (by omega) (by omega);omega
 have h6:t * pace * (100 + 5 * snow + load)≤52200000:=by have:=Int.mul_le_mul h2 h4 (by omega) (by omega);omega
 have e1:wr (t * pace)=t * pace:=z10 (by omega)
 have e2:wr (5 * snow)=5 * snow:=z10 (by omega)
 have e3:wr (100 + 5 * snow)=100 + 5 * snow:=z10 (by omega)
 have e4:wr (100 + 5 * snow + load)=100 + 5 * snow + load:=z10 (by omega)
 have e5:wr (t * pace * (100 + 5 * snow + load))=t * pace * (100 + 5 * snow + load):=z10 (by omega)
 have e6:wr (t * pace * (100 + 5 * snow + load) + 9999)=t * pace * (100 + 5 * snow + load) + 9999:=z10 (by omega)
 have e7:(t * pace * (100 + 5 * snow + load) + 9999).tdiv 10000=(t * pace * (100 + 5 * snow + load) + 9999) / 10000:=Int.tdiv_eq_ediv_of_nonneg (by omega)
 have h:timeW t pace snow load=(t * pace * (100 + 5 * snow + load) + 9999) / 10000:=by
  unfold timeW
  rw [e1,e2,e3,e4,e5,e6,e7]
  exact z10 (by omega)
 refine⟨h,?_⟩
 rw [h]
 unfold okTime
 omega
theorem z852 {n:Net} {p:Party} {x:Path} (hx:x.Good n) (hp:p.Good):okTime (spanW x p).hi∧okTime (spanW x p).lo∧(spanW x p).lo≤(spanW x p).hi:=by
 obtain⟨t1,t2,t3⟩:=hx.time
 obtain⟨s1,s2,s3⟩:=hx.snow
 obtain⟨p1,p2,p3⟩:=hp.pace
 obtain⟨a1,a2⟩:=z1036 (t:=x.time.hi) (pace:=p.pace.hi) (snow:=x.snow.hi) (load:=p.load) (by omega) (by omega) (by omega) hp.load
 obtain⟨b1,b2⟩:=z1036 (t:=x.time.lo) (pace:=p.pace.lo) (snow:=x.snow.lo) (load:=p.load) (by omega) (by omega) (by omega) hp.load
 have hl:=hp.load
 refine⟨a2,b2,?_⟩
 show timeW _ _ _ _≤timeW _ _ _ _
 rw [a1,b1]
 have h1:x.time.lo * p.pace.lo≤x.time.hi * p.pace.hi:=Int.mul_le_mul t2 p2 (by omega) (by omega)
 have h2:x.time.lo * p.pace.lo * (100 + 5 * x.snow.lo + p.load)≤x.time.hi * p.pace.hi * (100 + 5 * x.snow.hi + p.load):=by
  refine Int.mul_le_mul h1 (by omega) (by omega) ?_
  exact Int.mul_nonneg (by omega) (by omega)
 omega
theorem z554 (l:List Int) (k y v:Int) (hk:0≤k) (hkl:k.toNat<l.length) (hy:0≤y):getI (l.set k.toNat v) y=if y=k then v else getI l y:=by
 unfold getI
 rw [List.getD_eq_getElem?_getD,List.getD_eq_getElem?_getD,List.getElem?_set]
 by_cases h:y=k
 ·subst h;simp [hkl]
 ·rw [if_neg (by omega),if_neg h]
inductive Reach (ws:List (Nat × Path)) (dur:Path→Int) (x s:Int):Int→Int→Prop where
 | refl:Reach ws dur x s x s
 | step {y t:Int} (w:Nat × Path):Reach ws dur x s y t→w ∈ ws→w.2.frm=y→arriveF w.2.opens t (dur w.2)≤2880→Reach ws dur x s w.2.to (arriveF w.2.opens t (dur w.2))
def OkWs (n:Net) (dur:Path→Int) (ws:List (Nat × Path)):Prop:=∀ w ∈ ws,(0≤w.2.frm∧w.2.frm<n.places)∧(0≤w.2.to∧w.2.to<n.places)∧okTime (dur w.2)
theorem z490 {n:Net} {p:Party} (hn:n.Good) (hp:p.Good) (but:Int):OkWs n (fun x=>(spanW x p).hi) (waysL n p but)∧OkWs n (fun x=>(spanW x p).lo) (waysL n p but):=by
 constructor <;>
 ·intro w hw
  have hg:=hn.path w.2 (List.mem_of_getElem? (z163 hw))
  have:=z852 hg hp
  exact⟨hg.frm,hg.to,by first | exact this.1 | exact this.2.1⟩
theorem Reach.range {n:Net} {ws:List (Nat × Path)} {dur:Path→Int} (hw:OkWs n dur ws) {x s y t:Int} (hs:0≤s∧s≤2880) (hx:0≤x∧x<n.places) (h:Reach ws dur x s y t) :
  s≤t∧t≤2880∧0≤y∧y<n.places:=by
 induction h with
 | refl=>omega
 | @step y t w _ hm hf hle ih =>
  obtain⟨h1,h2,h3⟩:=hw w hm
  have hv:never=1073741824:=rfl
  rcases z124 (opens:=w.2.opens) (t:=t) (d:=dur w.2) (by omega) h3 with h | h
  ·omega
  ·unfold okTime at h3;omega
theorem Reach.mono {n:Net} {ws:List (Nat × Path)} {dur:Path→Int} (hw:OkWs n dur ws) {x s s' y t:Int} (hs:0≤s'∧s'≤s) (h2:s≤2880) (hx:0≤x∧x<n.places) (h:Reach ws dur x s y t):∃ t',t'≤t∧Reach ws dur x s' y t':=by
 induction h with
 | refl=>exact⟨s',hs.2,.refl⟩
 | @step y t w hr hm hf hle ih =>
  obtain⟨t',ht',hr'⟩:=ih
  have hrg:=hr'.range hw (by omega) hx
  have:=z892 (opens:=w.2.opens) (t:=t') (t':=t) (d:=dur w.2) (by omega) ht' (hw w hm).2.2
  exact⟨_,this,.step w hr' hm hf (by omega)⟩
end Go.Ab
/- Plain laws of layer 1: what the passes come to. -/
namespace Go.Ab
open Go.RowKit Go.Proofs
set_option maxHeartbeats 1000000
theorem Reach.trans {ws:List (Nat × Path)} {dur:Path→Int} {x s y t z u:Int} (h:Reach ws dur x s y t) (h':Reach ws dur y t z u):Reach ws dur x s z u:=by
 induction h' with
 | refl=>exact h
 | step w _ hm hf hle ih=>exact .step w ih hm hf hle
theorem Reach.one {ws:List (Nat × Path)} {dur:Path→Int} {t:Int} {w:Nat × Path} (hm:w ∈ ws) (hle:arriveF w.2.opens t (dur w.2)≤2880):Reach ws dur w.2.frm t w.2.to (arriveF w.2.opens t (dur w.2)) :=
 .step w .refl hm rfl hle
section
variable {n:Net} {p:Party} {q:Span→Int} {but frm start:Int}
def ArrInv (n:Net) (ws:List (Nat × Path)) (dur:Path→Int) (frm start:Int) (l:List Int):Prop :=
 l.length=n.places.toNat∧getI l frm≤start∧∀ y,0≤y→y<n.places→getI l y=never∨(0≤getI l y∧getI l y≤2880∧Reach ws dur frm start y (getI l y))
end
section
variable {n:Net} {p:Party} {to b:Int}
abbrev durHi (p:Party):Path→Int:=fun x=>(spanW x p).hi
abbrev durLo (p:Party):Path→Int:=fun x=>(spanW x p).lo
def DeadInv (n:Net) (p:Party) (to b:Int) (l:List Int):Prop :=
 l.length=n.places.toNat∧b≤getI l to∧∀ x,0≤x→x<n.places→-1≤getI l x∧getI l x≤2880∧(0≤getI l x→∃ t,t≤b∧Reach (waysL n p (-1)) (durHi p) x (getI l x) to t)
end
end Go.Ab
namespace Go.Ab
open Go.RowKit Go.Proofs
set_option maxHeartbeats 4000000
set_option maxRecDepth 20000
attribute [local irreducible] WalkL Walk
structure Fits (n:Net) (p:Party) (x:Trip):Prop where
 net:n.Good
 party:p.Good
 few:n.places≤6∧n.paths.length≤10
 frm:0≤x.frm∧x.frm<n.places
 to:0≤x.to∧x.to<n.places
 start:0≤x.start∧x.start≤2880
 deadline:0≤x.deadline∧x.deadline≤2880
end Go.Ab
namespace Go.Ab
open Go.RowKit Go.Proofs
set_option maxHeartbeats 4000000
set_option maxRecDepth 20000
attribute [local irreducible] WalkL Walk
end Go.Ab
namespace Go.Ab
open Go.RowKit Go.Proofs
set_option maxHeartbeats 4000000
set_option maxRecDepth 20000
attribute [local irreducible] WalkL Walk
def onB (n:Net) (p:Party) (f i:Int):Option Int :=
 if withinB i 0 (n.paths.length - 1) then match n.paths[i.toNat]? with
  | some x=>if x.grade≤p.grade∧x.frm=f then some x.to else none
  | none=>none
 else none
def walkR (n:Net) (p:Party) (f:Int) (l:List Int):Option Int:=l.foldl (fun s i=>s.bind fun g=>onB n p g i) (some f)
def isRouteB (n:Net) (p:Party) (f:Int) (l:List Int):Bool:=(walkR n p f l).isSome && decide ((l.length:Int)≤30)
end Go.Ab
namespace Go.Ab
open Go.RowKit Go.Proofs
set_option maxHeartbeats 4000000
set_option maxRecDepth 20000
attribute [local irreducible] WalkL Walk
def noPath:Path:=⟨0,0,0,⟨0,0⟩,⟨0,0⟩,[]⟩
def pathAt (n:Net) (v:Int):Path:=n.paths.getD v.toNat noPath
def roundW (n:Net) (p:Party) (waits times:List Int) (i:Nat) (v at0:Int):Option Int :=
 let e:=enterF (pathAt n v).opens (if i<waits.length then wr (at0 + getI waits i) else at0)
 if e ≥ 1073741824 then none else some (wr (e + if i<times.length then getI times i else (spanW (pathAt n v) p).hi))
def walkedAt (n:Net) (p:Party) (route waits times:List Int) (start:Int):Nat→Option Int
 | 0=>some start
 | i + 1=>(walkedAt n p route waits times start i).bind (roundW n p waits times i (getI route i))
def walkedF (n:Net) (p:Party) (route:List Int) (start:Int) (waits times:List Int):Int:=(walkedAt n p route waits times start route.length).getD 1073741824
def onNet (n:Net) (v:Int):Prop:=0≤v∧v<n.paths.length
end Go.Ab
namespace Go.Ab
open Go.RowKit Go.Proofs
set_option maxHeartbeats 4000000
set_option maxRecDepth 20000
attribute [local irreducible] WalkL Walk
end Go.Ab
namespace Go.Ab
open Go.RowKit Go.Proofs
set_option maxHeartbeats 4000000
set_option maxRecDepth 20000
attribute [local irreducible] WalkL Walk
def turnF (n:Net) (p:Party) (by1:List Int):List Int→Int→Nat→Int
 | [],_,k=>k
 | v::r,t,k=>if arriveF (pathAt n v).opens t (spanW (pathAt n v) p).hi > getI by1 (pathAt n v).to then k else turnF n p by1 r (arriveF (pathAt n v).opens t (spanW (pathAt n v) p).hi) (k + 1)
def turnL (n:Net) (p:Party) (route:List Int) (frm start home deadline:Int):Int × Int :=
 if openF n p [frm,home] [start,deadline]=0 then
  if isRouteB n p frm route then
   if start > getI (deadlinesL n p home deadline) frm then (-1,0) else (turnF n p (deadlinesL n p home deadline) route start 0,0)
  else (0,12)
 else (0,openF n p [frm,home] [start,deadline])
end Go.Ab
namespace Go.Ab
open Go.RowKit Go.Proofs
def goOn (n:Net) (p:Party) (s:Int × Int) (v:Int):Int × Int:=((pathAt n v).to,arriveF (pathAt n v).opens s.2 (spanW (pathAt n v) p).hi)
def posR (n:Net) (p:Party) (s:Int × Int) (l:List Int) (i:Nat):Int × Int:=(l.take i).foldl (goOn n p) s
end Go.Ab
namespace Go.Ab
open Go.RowKit Go.Proofs
set_option maxHeartbeats 4000000
set_option maxRecDepth 20000
attribute [local irreducible] WalkL Walk
end Go.Ab
namespace Go.Ab
open Go.RowKit Go.Proofs
set_option maxHeartbeats 4000000
set_option maxRecDepth 20000
attribute [local irreducible] WalkL Walk
end Go.Ab
/- Plain law of layer 1: the document's table is the program's arrivals. -/
namespace Go.Ab
open Go.RowKit Go.Proofs
set_option maxHeartbeats 1000000
theorem z304 (p:Party) (but:Int):∀ (l:List Path) (i j:Nat) (x:Path),l[j]?=some x→((i + j:Nat):Int)≠but→x.grade≤p.grade→(i + j,x) ∈ waysFrom p but l i
 | [],i,j,x,h,_,_=>by simp at h
 | y::l,i,0,x,h,h1,h2=>by
  simp at h;subst h
  unfold waysFrom
  rw [if_pos ⟨by simpa using h1,h2⟩]
  simp
 | y::l,i,j + 1,x,h,h1,h2=>by
  have:=z304 p but l (i + 1) j x (by simpa using h) (by rw [show i + 1 + j=i + (j + 1) by omega];exact h1) h2
  rw [show i + 1 + j=i + (j + 1) by omega] at this
  unfold waysFrom
  split
  ·exact List.mem_cons_of_mem _ this
  ·exact this
theorem z1027 {n:Net} {p:Party} {but:Int} {w:Nat × Path}:w ∈ waysL n p but↔n.paths[w.1]?=some w.2∧w.2.grade≤p.grade∧(w.1:Int)≠but:=by
 constructor
 ·intro h
  obtain⟨_,h2,h3,h4⟩:=z120 p but n.paths 0 w h
  exact⟨by simpa using h2,h3,h4⟩
 ·rintro⟨h1,h2,h3⟩
  have:=z304 p but n.paths 0 w.1 w.2 h1 (by simpa using h3) h2
  simpa [waysL] using this
def endOf (high:Bool) (s:Span):Int:=if high then s.hi else s.lo
section
variable {n:Net} {p:Party} {high:Bool} {but frm start:Int}
def TabInv (n:Net) (p:Party) (high:Bool) (but frm start:Int) (l:List Int):Prop :=
 l.length=n.places.toNat∧∀ y,0≤y→y<n.places→getI l y=never∨(0≤getI l y∧getI l y≤2880∧Reach (waysL n p but) (fun x=>endOf high (spanW x p)) frm start y (getI l y))
def lower (m:Nat) (d:Int→Int) (y:Int):Nat:=((List.range m).filter fun (i:Nat)=>decide (d i<d y)).length
end
end Go.Ab
namespace Go.Ab
open Go.RowKit Go.Proofs
set_option maxHeartbeats 4000000
set_option maxRecDepth 20000
attribute [local irreducible] WalkL Walk
end Go.Ab
/- Plain laws of layer 1: what the document returns is what the program returns. -/
namespace Go.Ab
open Go.RowKit Go.Proofs
set_option maxHeartbeats 1000000
section
variable {n:Net} {p:Party} {frm start to deadline:Int}
end
end Go.Ab
namespace Go.Ab
open Go.RowKit Go.Proofs
set_option maxHeartbeats 4000000
set_option maxRecDepth 20000
attribute [local irreducible] WalkL Walk
def checkTurnF (n:Net) (p:Party) (route:List Int) (frm start home deadline:Int):Int :=
 if openF n p [frm,home] [start,deadline]=0 then (if isRouteB n p frm route=true then 0 else 12) else openF n p [frm,home] [start,deadline]
end Go.Ab
/- Plain laws of layer 1: the route that is returned. -/
namespace Go.Ab
open Go.RowKit Go.Proofs
set_option maxHeartbeats 1000000
inductive Trail (n:Net) (p:Party):Int→Int→List Int→Int→Int→Prop where
 | nil (y t:Int):Trail n p y t [] y t
 | cons {y t z u:Int} {r:List Int} (w:Nat × Path) (hm:w ∈ waysL n p (-1)) (hf:w.2.frm=y) (hle:arriveF w.2.opens t (spanW w.2 p).hi≤2880)
   (h:Trail n p w.2.to (arriveF w.2.opens t (spanW w.2 p).hi) r z u):Trail n p y t ((w.1:Int)::r) z u
inductive ReachN (n:Net) (p:Party) (x s:Int):Nat→Int→Int→Prop where
 | refl:ReachN n p x s 0 x s
 | step {k:Nat} {y t:Int} (w:Nat × Path):ReachN n p x s k y t→w ∈ waysL n p (-1)→w.2.frm=y→arriveF w.2.opens t (spanW w.2 p).hi≤2880→ReachN n p x s (k + 1) w.2.to (arriveF w.2.opens t (spanW w.2 p).hi)
theorem ReachN.reach {n:Net} {p:Party} {x s:Int} {k:Nat} {y t:Int} (h:ReachN n p x s k y t):Reach (waysL n p (-1)) (durHi p) x s y t:=by
 induction h with
 | refl=>exact .refl
 | step w _ hm hf hle ih=>exact .step w ih hm hf hle
theorem Trail.reach {n:Net} {p:Party} {y t z u:Int} {r:List Int} (h:Trail n p y t r z u):Reach (waysL n p (-1)) (durHi p) y t z u:=by
 induction h with
 | nil=>exact .refl
 | cons w hm hf hle _ ih =>
  subst hf
  exact Reach.trans (Reach.one (dur:=durHi p) hm hle) ih
section
variable {n:Net} {p:Party} {frm start:Int}
def NowInv (n:Net) (p:Party) (frm start:Int) (k:Nat) (l:List Int):Prop :=
 l.length=n.places.toNat∧∀ y,0≤y→y<n.places→getI l y=never∨(0≤getI l y∧getI l y≤2880∧ReachN n p frm start k y (getI l y))
theorem z137 {m:Nat} {y:Int} (hy:0≤y) (hm:y<m):getI (List.replicate m (-1:Int)) y=-1:=by
 unfold getI;rw [List.getD_eq_getElem?_getD,List.getElem?_replicate,if_pos (by omega)];rfl
end
end Go.Ab
/- Plain laws of layer 1: the route that is returned,path by path. -/
namespace Go.Ab
open Go.RowKit Go.Proofs
set_option maxHeartbeats 1000000
def lexLe:List Int→List Int→Prop
 | [],_=>True
 | _::_,[]=>False
 | a::l,b::m=>a<b∨(a=b∧lexLe l m)
section
variable {n:Net} {p:Party} {to arr:Int}
theorem z205 (hn:n.Good) (hp:p.Good) {cur:List Int} (t y:Int) (hy:0≤y):∀ (ws:List (Nat × Path)) (l:List Int),(∀ w ∈ ws,w ∈ waysL n p (-1))→l.length=n.places.toNat →
  (t≤getI (ws.foldl (relaxBy p cur) l) y↔t≤getI l y∨∃ w ∈ ws,w.2.frm=y∧t≤latestF w.2.opens (wr (getI cur w.2.to - (spanW w.2 p).hi))):=by
 intro ws
 induction ws with
 | nil=>intro l _ _;simp
 | cons v ws ih =>
  intro l hs hl
  obtain⟨v1,_,_⟩:=(z490 hn hp (-1)).1 v (hs v (by simp))
  have hsz:v.2.frm.toNat<l.length:=by omega
  rw [List.foldl_cons,ih _ (fun w hw=>hs w (by simp [hw])) (by rw [z861,hl])]
  unfold relaxBy
  rw [z554 _ _ _ _ v1.1 hsz hy]
  simp only [List.mem_cons,exists_eq_or_imp]
  by_cases h:y=v.2.frm
  ·subst h
   rw [if_pos rfl]
   constructor
   ·rintro (h1 | h1)
    ·by_cases h2:t≤getI l v.2.frm
     ·exact .inl h2
     ·exact .inr (.inl ⟨rfl,by omega⟩)
    ·exact .inr (.inr h1)
   ·rintro (h1 | ⟨_,h1⟩ | h1)
    ·exact .inl (by omega)
    ·exact .inl (by omega)
    ·exact .inr h1
  ·rw [if_neg h]
   constructor
   ·rintro (h1 | h1)
    ·exact .inl h1
    ·exact .inr (.inr h1)
   ·rintro (h1 | ⟨h2,_⟩ | h1)
    ·exact .inl h1
    ·exact absurd h2.symm h
    ·exact .inr h1
theorem z1108 (hn:n.Good) (hp:p.Good) (ht:0≤to∧to<n.places) (ha:0≤arr∧arr≤2880):∀ (k:Nat) (y:Int),0≤y→y<n.places→-1≤getI (byL n p to arr k) y∧getI (byL n p to arr k) y≤2880
 | 0,y,hy,hyn=>by
  have hl:to.toNat<(List.replicate n.places.toNat (-1:Int)).length:=by simp;omega
  show -1≤getI (deadlines0 n to arr) y∧getI (deadlines0 n to arr) y≤2880
  unfold deadlines0
  rw [z554 _ _ _ _ ht.1 hl hy]
  split
  ·omega
  ·rw [z137 hy (by omega)];omega
 | k + 1,y,hy,hyn=>by
  obtain⟨c,hc⟩:∃ c,c=byL n p to arr k:=⟨_,rfl⟩
  have e:byL n p to arr (k + 1)=byNext n p c:=by rw [hc];rfl
  rw [e]
  constructor
  ·refine (z205 hn hp (-1) y hy (waysL n p (-1)) _ (fun _ h=>h) (by simp)).2 (.inl ?_)
   rw [z137 hy (by omega)];exact Int.le_refl _
  ·by_cases h:getI (byNext n p c) y≤2880
   ·exact h
   ·exfalso
    rcases (z205 (cur:=c) hn hp 2881 y hy (waysL n p (-1)) (List.replicate n.places.toNat (-1)) (fun _ h=>h) (by simp)).1 (by unfold byNext at h;omega) with h1 | ⟨w,hw,_,h1⟩
    ·rw [z137 hy (by omega)] at h1;omega
    ·have:=z462 (wr (getI c w.2.to - (spanW w.2 p).hi)) w.2.opens (-1) (by omega) (hn.hi w.2 (List.mem_of_getElem? (z163 hw)))
     change latestF _ _≤2880 at this
     omega
theorem z1194 (hn:n.Good) (hp:p.Good) (ht:0≤to∧to<n.places) (ha:0≤arr∧arr≤2880) (k:Nat) {y t:Int} (hy:0≤y) (hyn:y<n.places) (h0:0≤t) :
  t≤getI (byL n p to arr (k + 1)) y↔∃ w ∈ waysL n p (-1),w.2.frm=y∧arriveF w.2.opens t (spanW w.2 p).hi≤getI (byL n p to arr k) w.2.to:=by
 obtain⟨c,hc⟩:∃ c,c=byL n p to arr k:=⟨_,rfl⟩
 have e:byL n p to arr (k + 1)=byNext n p c:=by rw [hc];rfl
 have hr:=z1108 hn hp ht ha k
 rw [e,← hc]
 rw [← hc] at hr
 unfold byNext
 rw [z205 hn hp t y hy (waysL n p (-1)) _ (fun _ h=>h) (by simp),z137 hy (by omega)]
 constructor
 ·rintro (h1 | ⟨w,hw,hf,h1⟩)
  ·omega
  ·obtain⟨_,w2,w3⟩:=(z490 hn hp (-1)).1 w hw
   have hb:=hr w.2.to w2.1 w2.2
   exact⟨w,hw,hf,(z461 h0 w3 hb.2 hb.1).1 h1⟩
 ·rintro⟨w,hw,hf,h1⟩
  obtain⟨_,w2,w3⟩:=(z490 hn hp (-1)).1 w hw
  have hb:=hr w.2.to w2.1 w2.2
  exact .inr ⟨w,hw,hf,(z461 h0 w3 hb.2 hb.1).2 h1⟩
theorem z1193 (ht:0≤to∧to<n.places) {y t:Int} (hy:0≤y) (hyn:y<n.places) (h0:0≤t):t≤getI (byL n p to arr 0) y↔y=to∧t≤arr:=by
 have hl:to.toNat<(List.replicate n.places.toNat (-1:Int)).length:=by simp;omega
 show t≤getI (deadlines0 n to arr) y↔_
 unfold deadlines0
 rw [z554 _ _ _ _ ht.1 hl hy]
 split
 ·rename_i h;subst h;simp
 ·rename_i h
  rw [z137 hy (by omega)]
  constructor
  ·intro h1;omega
  ·rintro⟨h1,_⟩;exact absurd h1 h
theorem Trail.by (hn:n.Good) (hp:p.Good) (ht:0≤to∧to<n.places) (ha:0≤arr∧arr≤2880) {y t z u:Int} {r:List Int} (h:Trail n p y t r z u):0≤y→y<n.places→0≤t→z=to→u≤arr→t≤getI (byL n p to arr r.length) y:=by
 induction h with
 | nil y t =>
  intro hy hyn h0 hz hu
  exact (z1193 ht hy hyn h0).2 ⟨hz,hu⟩
 | @cons y t z u r w hm hf hle hr ih =>
  intro hy hyn h0 hz hu
  obtain⟨_,w2,w3⟩:=(z490 hn hp (-1)).1 w hm
  have w3:okTime (spanW w.2 p).hi:=w3
  have h1:0≤arriveF w.2.opens t (spanW w.2 p).hi:=by
   have hv:never=1073741824:=rfl
   rcases z124 (opens:=w.2.opens) h0 w3 with h | h
   ·omega
   ·unfold okTime at w3;omega
  exact (z1194 hn hp ht ha r.length hy hyn h0).2 ⟨w,hm,hf,ih w2.1 w2.2 h1 hz hu⟩
end
end Go.Ab
/- Plain laws of layer 1: a path that is shut;paths that must stay open. -/
namespace Go.Ab
open Go.RowKit Go.Proofs
set_option maxHeartbeats 1000000
def Path.shut (x:Path):Path:={ x with opens:=[] }
def Net.shut (n:Net) (i:Nat):Net:={ n with paths:=n.paths.modify i Path.shut }
section
variable {n:Net} {p:Party} {frm start:Int}
end
theorem z1133 (q:Nat→Bool) (k i:Nat) (h:i<k):((selL q k).any fun y=>y == (i:Int))=q i:=by
 unfold selL
 cases hq:q i with
 | true =>
  rw [List.any_eq_true]
  refine⟨(i:Int),List.mem_map.2 ⟨i,?_,rfl⟩,by simp⟩
  simp [h,hq]
 | false =>
  rw [List.any_eq_false]
  intro y hy hc
  obtain⟨j,hj,rfl⟩:=List.mem_map.1 hy
  have:j=i:=by have:(j:Int)=(i:Int):=by simpa using hc
               omega
  subst this
  simp [hq] at hj
end Go.Ab
/- Plain laws of layer 1: who walks a route comes in time. -/
namespace Go.Ab
open Go.RowKit Go.Proofs
set_option maxHeartbeats 1000000
theorem z680 (n:Net) (p:Party) (s:Int × Int) (v:Int) (r:List Int) (i:Nat):posR n p s (v::r) (i + 1)=posR n p (goOn n p s v) r i:=rfl
theorem z453 {n:Net} {p:Party} {but:Int} {w:Nat × Path} (h:w ∈ waysL n p but):pathAt n (w.1:Int)=w.2:=by
 have:=z163 h
 simp [pathAt,List.getD,this]
section
variable {n:Net} {p:Party}
theorem Trail.at {y t z u:Int} {r:List Int} (h:Trail n p y t r z u):∀ (i:Nat) v,r[i]?=some v→∃ w ∈ waysL n p (-1),(w.1:Int)=v∧pathAt n v=w.2∧w.2.frm=(posR n p (y,t) r i).1∧arriveF w.2.opens (posR n p (y,t) r i).2 (spanW w.2 p).hi≤2880:=by
 induction h with
 | nil=>intro i v hv;simp at hv
 | @cons y t z u r w hm hf hle hr ih =>
  intro i v hv
  have hp:=z453 hm
  cases i with
  | zero =>
   simp at hv
   subst hv
   exact⟨w,hm,rfl,hp,hf,hle⟩
  | succ i =>
   rw [z680]
   have hg:goOn n p (y,t) (w.1:Int)=(w.2.to,arriveF w.2.opens t (spanW w.2 p).hi):=by unfold goOn;rw [hp]
   rw [hg]
   exact ih i v (by simpa using hv)
theorem Trail.last {y t z u:Int} {r:List Int} (h:Trail n p y t r z u):posR n p (y,t) r r.length=(z,u):=by
 induction h with
 | nil=>rfl
 | @cons y t z u r w hm hf hle hr ih =>
  rw [List.length_cons,z680]
  have hg:goOn n p (y,t) (w.1:Int)=(w.2.to,arriveF w.2.opens t (spanW w.2 p).hi):=by unfold goOn;rw [z453 hm]
  rw [hg]
  exact ih
theorem Trail.walkR {y t z u:Int} {r:List Int} (h:Trail n p y t r z u):Go.Ab.walkR n p y r=some z:=by
 induction h with
 | nil=>rfl
 | @cons y t z u r w hm hf hle hr ih =>
  obtain⟨g1,g2,_⟩:=z1027.1 hm
  have hlt:=(List.getElem?_eq_some_iff.1 g1).1
  have ho:onB n p y (w.1:Int)=some w.2.to:=by
   unfold onB
   rw [if_pos (z20.2 (by omega)),Int.toNat_natCast,g1]
   simp [g2,hf]
  show List.foldl _ (onB n p y (w.1:Int)) r=some z
  rw [ho]
  exact ih
end
end Go.Ab
namespace Go.Ab
open Go.RowKit Go.Proofs
set_option maxHeartbeats 4000000
set_option maxRecDepth 20000
attribute [local irreducible] WalkL Walk
theorem z897 (n lo hi:Int):Fn Tryd.prog 68 [.i n,.i lo,.i hi] (.bool (withinB n lo hi)):=by
 refine z11 15 Tryd.call68 Tryd.func68 rfl (by decide) fun J=>?_
 simp only [go_sem,St.start,Tryd.ntmps68,Tryd.results68]
 by_cases h:lo≤n
 ·repeat (first|refine nx ?_|(refine z3 fun K hK=>?_;simp only [go_sem,h];apply hK;clear hK K))
  simp only [go_sem,withinB,h]
 ·repeat (first|refine nx ?_|(refine z3 fun K hK=>?_;simp only [go_sem,h];apply hK;clear hK K))
  simp only [go_sem,withinB,h]
def canTo (n:Net) (p:Party):Nat→List (Nat × Path)
 | 0=>[]
 | k + 1=>canTo n p k++(match n.paths[k]? with
  | some x=>if x.grade≤p.grade then [(k,x)] else []
  | none=>[])
def entsC (p:Party):List (Nat × Path)→Nat→List (MK × DV × Nat)
 | [],_=>[]
 | w::l,j=>(.i w.1,.agg (spanW w.2 p).row,j)::entsC p l (j + 1)
def mapD (es:List (MK × DV × Nat)) (c:Nat):DV:=.mp none (es.map fun e=>(e.1,e.2.2)) (es.map fun e=>e.2.1) c
def canL (n:Net) (p:Party):List (Nat × Path):=canTo n p n.paths.length
def timesD (n:Net) (p:Party):DV:=mapD (entsC p (canL n p) 0) (canL n p).length
def countryC (n:Net) (p:Party):List DV:=[.i n.places,.sl (n.paths.map Path.row),timesD n p]
def travC (n:Net) (p:Party):List DV:=if checkPartyF n p=0 then countryC n p else [.i 0,.sl [],.any]
theorem z192 {n:Net} {p:Party}:∀ {k:Nat} {w:Nat × Path},w ∈ canTo n p k→w.1<k∧n.paths[w.1]?=some w.2∧w.2.grade≤p.grade
 | 0,w,h=>by simp [canTo] at h
 | k + 1,w,h=>by
  rw [canTo,List.mem_append] at h
  rcases h with h | h
  ·obtain⟨h1,h2⟩:=z192 h;exact⟨by omega,h2⟩
  ·split at h
   ·rename_i x hx
    split at h
    ·rename_i hg
     simp at h;subst h;exact⟨by simp,hx,hg⟩
    ·simp at h
   ·simp at h
theorem z740 {n:Net} {p:Party} {i:Nat} {x:Path} (hx:n.paths[i]?=some x) (hg:x.grade≤p.grade):∀ {k:Nat},i<k→(i,x) ∈ canTo n p k
 | 0,h=>by omega
 | k + 1,h=>by
  rw [canTo,List.mem_append]
  by_cases hk:i<k
  ·exact .inl (z740 hx hg hk)
  ·have:i=k:=by omega
   subst this
   exact .inr (by simp [hx,hg])
theorem z475 (p:Party) (w:Nat × Path):∀ (l:List (Nat × Path)) (j:Nat),entsC p (l++[w]) j=entsC p l j++[(.i w.1,.agg (spanW w.2 p).row,j + l.length)]
 | [],j=>by simp [entsC]
 | x::l,j=>by simp [entsC,z475 p w l];omega
theorem z730 (p:Party):∀ (l:List (Nat × Path)) (j:Nat),(entsC p l j).length=l.length
 | [],_=>rfl
 | w::l,j=>by simp [entsC,z730 p l]
theorem z263 (p:Party) {k:Int}:∀ (l:List (Nat × Path)) (j i:Nat),(∀ w ∈ l,(w.1:Int)≠k)→findE (entsC p l j) (.i k) i=none
 | [],_,_,_=>rfl
 | w::l,j,i,h=>by
  have h1:=h w (by simp)
  rw [entsC,findE,if_neg (by simp;exact fun e=>h1 e.symm)]
  exact z263 p l _ _ fun w hw=>h w (by simp [hw])
theorem z474 (p:Party) {w:Nat × Path}:∀ (l:List (Nat × Path)) (j i:Nat),w ∈ l→(∀ v ∈ l,v.1=w.1→v=w)→∃ q b,findE (entsC p l j) (.i w.1) i=some (q,.agg (spanW w.2 p).row,b)
 | [],_,_,h,_=>by simp at h
 | v::l,j,i,h,hu=>by
  rw [entsC,findE]
  by_cases hv:v.1=w.1
  ·rw [if_pos (by simp [hv]),hu v (by simp) hv]
   exact⟨_,_,rfl⟩
  ·rw [if_neg (by simp;omega)]
   rcases List.mem_cons.1 h with rfl | h
   ·exact absurd rfl hv
   ·exact z474 p l _ _ h fun v hv=>hu v (by simp [hv])
theorem z1284 (n:Net) (p:Party) (hs:n.Small):Fn Tryd.prog 61 [.agg n.cells,.agg p.cells] (.tup [.agg (travC n p),.i (checkPartyF n p)]):=by
 have h66:=z1278 n hs
 have h18:=z1340 n p 0 0 hs
 have hlen:=hs.paths
 refine z11 55 Tryd.call61 Tryd.func61 rfl (by decide) fun J=>?_
 simp only [go_sem,St.start,Tryd.ntmps61,Tryd.results61,Net.cells,Party.cells]
 repeat (first|refine nx ?_|(refine z3 fun K hK=>?_;simp only [go_sem];(repeat (first|(refine⟨_,.lent (hf:=h66) (hd:=rfl) (hr:=rfl),?_⟩;simp only [go_sem])|(refine⟨_,.given (hf:=h66) (hd:=rfl) (ha:=rfl),?_⟩;simp only [go_sem])));apply hK;clear hK K))
 refine z6 rfl (fun hc=>?_) (fun hc=>?_)
 ·have hc:checkF n≠0:=by simpa using hc
  have hb:badNet n=true:=by
   simp only [checkF] at hc
   by_cases hb:badNet n=true
   ·exact hb
   ·rw [if_neg hb] at hc;exact absurd rfl hc
  have e1:checkF n=checkPartyF n p:=by rw [checkF,checkPartyF,if_pos hb,if_pos hb]
  rw [e1] at hc
  repeat (first|refine nx ?_|(refine z3 fun K hK=>?_;simp only [go_sem];apply hK;clear hK K))
  simp only [go_sem,travC,hc,e1]
 have hnb:¬ badNet n=true:=by
  intro hb
  rw [checkF,if_pos hb] at hc
  simp at hc
 have hpl:=z116 hnb
 have e2:(arriveL n p 0 0).2.2=checkPartyF n p:=by
  have h1:openF n p [0] [0]=checkPartyF n p:=by
   rw [openF,checkPartyF,if_neg hnb,if_neg hnb]
   have:badAsk n [0] [0]=false:=by
    have:withinB 0 0 (n.places - 1)=true:=z20.2 (by omega)
    simp [badAsk,this]
    decide
   rw [this]
   rfl
  rw [arriveL]
  split
  ·rename_i h;rw [← h1,h]
  ·exact h1
 rw [e2] at h18
 repeat (first|refine nx ?_|(refine z3 fun K hK=>?_;simp only [go_sem];(repeat (first|(refine⟨_,.lent (hf:=h18) (hd:=rfl) (hr:=rfl),?_⟩;simp only [go_sem])|(refine⟨_,.given (hf:=h18) (hd:=rfl) (ha:=rfl),?_⟩;simp only [go_sem])));apply hK;clear hK K))
 refine z6 rfl (fun hc=>?_) (fun hc=>?_)
 ·have hc:checkPartyF n p≠0:=by simpa using hc
  repeat (first|refine nx ?_|(refine z3 fun K hK=>?_;simp only [go_sem];apply hK;clear hK K))
  simp only [go_sem,travC,hc]
 have hok:checkPartyF n p=0:=by simpa using hc
 repeat (first|refine nx ?_|(refine z3 fun K hK=>?_;simp only [go_sem];apply hK;clear hK K))
 refine z13 (fun (k:Nat)=>[(37,.d (.i k))]) (fun k=>[(32,some (.mp none (entsC p (canTo n p k) 0) (canTo n p k).length))]) (fun k=>k≤n.paths.length) (fun k=>n.paths.length - k) 0 ?_ (Nat.zero_le _) ?_
 ·simp only [go_sem,canTo,entsC]
  refine weA ?_ ?_ <;> simp
 ·intro k hk
  simp only [go_sem]
  repeat (first|refine nx ?_|(refine z3 fun K hK=>?_;simp only [go_sem];apply hK;clear hK K))
  refine z6 rfl (fun hb=>?_) (fun hb=>?_)
  ·have hlt:k<n.paths.length:=by simpa using hb
   have hw:IntKind.i64.wrap ((k:Int) + 1)=((k + 1:Nat):Int):=by rw [z10 (by omega)];simp
   have h67:=z1357 n p k hs
   obtain⟨x,hx⟩:∃ x,n.paths[k]?=some x:=⟨_,List.getElem?_eq_getElem hlt⟩
   have hwf:walkF n p k=if x.grade≤p.grade then (spanW x p,0) else (⟨0,0⟩,3):=by
    have hwi:withinB (k:Int) 0 ((n.paths.length:Int) - 1)=true:=z20.2 (by omega)
    simp [walkF,hok,hwi,hx]
   by_cases hg:x.grade≤p.grade
   ·rw [hwf,if_pos hg] at h67
    rw [Span.row] at h67
    have hfn:=z263 p (k:=(k:Int)) (canTo n p k) 0 0 (fun w hw=>by have:=(z192 hw).1;omega)
    have hpush:=z475 p (k,x) (canTo n p k) 0
    repeat (first|refine nx ?_|(refine z3 fun K hK=>?_;simp only [go_sem];(repeat (first|(refine⟨_,.lent (hf:=h67) (hd:=rfl) (hr:=rfl),?_⟩;simp only [go_sem])|(refine⟨_,.given (hf:=h67) (hd:=rfl) (ha:=rfl),?_⟩;simp only [go_sem])));apply hK;clear hK K))
    refine z9 rfl ?_
    have hk1:canTo n p (k + 1)=canTo n p k++[(k,x)]:=by simp [canTo,hx,hg]
    repeat (first|refine nx ?_|(refine z3 fun K hK=>?_;simp only [go_sem,hfn,Span.row,hw];apply hK;clear hK K))
    refine⟨rfl,k + 1,?_,hlt,by omega⟩
    simp only [go_sem,hk1,hpush,Span.row,List.length_append,List.length_cons,List.length_nil,Nat.zero_add]
    refine weA ?_ ?_ <;> simp
   ·rw [hwf,if_neg hg] at h67
    rw [Span.row] at h67
    repeat (first|refine nx ?_|(refine z3 fun K hK=>?_;simp only [go_sem];(repeat (first|(refine⟨_,.lent (hf:=h67) (hd:=rfl) (hr:=rfl),?_⟩;simp only [go_sem])|(refine⟨_,.given (hf:=h67) (hd:=rfl) (ha:=rfl),?_⟩;simp only [go_sem])));apply hK;clear hK K))
    refine z5 rfl ?_
    have hk1:canTo n p (k + 1)=canTo n p k:=by simp [canTo,hx,hg]
    repeat (first|refine nx ?_|(refine z3 fun K hK=>?_;simp only [go_sem,hw];apply hK;clear hK K))
    refine⟨rfl,k + 1,?_,hlt,by omega⟩
    simp only [go_sem,hk1]
    refine weA ?_ ?_ <;> simp
  ·have he:k=n.paths.length:=by (have:¬ k<n.paths.length:=by simpa using hb);omega
   subst he
   repeat (first|refine nx ?_|(refine z3 fun K hK=>?_;simp only [go_sem];apply hK;clear hK K))
   simp only [go_sem,travC,hok]
   rfl
end Go.Ab
namespace Go.Ab
open Go.RowKit Go.Proofs
set_option maxHeartbeats 4000000
set_option maxRecDepth 20000
attribute [local irreducible] WalkL Walk
structure Clue where
 minute:Int
 places:Int
 seen:Bool
structure Missed where
 party:Party
 place:Int
 start:Int
 now:Int
 rest:Int
 clues:List Clue
def Clue.row (c:Clue):List DV:=[.i c.minute,.i c.places,.bool c.seen]
def Missed.row (x:Missed):List DV:=[.i x.party.grade,.i x.party.load,.i x.party.pace.lo,.i x.party.pace.hi,.i x.place,.i x.start,.i x.now,.i x.rest,.sl (x.clues.map Clue.row)]
def huntC (n:Net) (x:Missed):List DV:=[.i n.places,.sl (n.paths.map Path.row),timesD n x.party,.i x.party.grade,.i x.party.load,.i x.party.pace.lo,.i x.party.pace.hi,.i x.place,.i x.start,.i x.now,.i x.rest,.sl (x.clues.map Clue.row)]
def hasB (set i:Int):Bool:=bAnd .i64 (bShr .i64 set i) 1 == 1
def atB (cl:List Clue) (place minute:Int):Bool:=!cl.any fun c=>c.minute == minute && (hasB c.places place != c.seen)
def onB8 (cl:List Clue) (minute:Int):Bool:=!cl.any fun c=>c.minute == minute && c.seen
def fullS (n:Net):Int:=wr (bShl .i64 1 n.places - 1)
def wrongC (n:Net) (x:Missed) (c:Clue):Bool:=!withinB c.minute x.start x.now || !withinB c.places 1 (fullS n)
def badHunt (n:Net) (x:Missed):Bool:=!withinB x.place 0 (n.places - 1) || (!withinB x.start 0 2880 || (!withinB x.rest 0 600 || !withinB x.now x.start 2880))
def openX (n:Net) (x:Missed):Int:=if checkPartyF n x.party≠0 then checkPartyF n x.party else if badHunt n x then 80 else if decide ((x.clues.length:Int) > 12) || x.clues.any (wrongC n x) then 81 else 0
theorem z1254 (xs:List Clue) (g:Nat) (caps:List DV) (q:Clue→Bool) (hq:∀ s ∈ xs,Fn Tryd.prog g (.agg s.row::caps) (.bool (q s))) (hl:xs.length<2 ^ 62):Fn Tryd.prog 100 [.sl (xs.map Clue.row),.fn g caps] (.i (idxFrom q xs 0)):=by
 refine z11 19 Tryd.call100 Tryd.func100 rfl (by decide) fun J=>?_
 simp only [go_sem,St.start,Tryd.ntmps100,Tryd.results100]
 repeat (first|refine nx ?_|(refine z3 fun K hK=>?_;simp only [go_sem];apply hK;clear hK K))
 refine z13 (fun (i:Nat)=>[(8,.d (.i i))]) (fun _=>[]) (fun i=>i≤xs.length∧idxFrom q xs 0=idxFrom q (xs.drop i) i) (fun i=>xs.length - i) 0 ?_ ⟨Nat.zero_le _,rfl⟩ ?_
 ·simp only [go_sem]
  refine weA ?_ ?_ <;> simp
 ·intro i ⟨hi,hq0⟩
  simp only [go_sem]
  repeat (first|refine nx ?_|(refine z3 fun K hK=>?_;simp only [go_sem];apply hK;clear hK K))
  refine z6 rfl (fun hb=>?_) (fun hb=>?_)
  ·have hlt:i<xs.length:=by simpa using hb
   obtain⟨s,hs⟩:∃ s,xs[i]?=some s:=⟨_,List.getElem?_eq_getElem hlt⟩
   have hw:IntKind.i64.wrap ((i:Int) + 1)=((i + 1:Nat):Int):=by rw [z10 (by omega)];simp
   rw [z58 hs,idxFrom] at hq0
   repeat (first|refine nx ?_|(refine z3 fun K hK=>?_;simp only [go_sem];apply hK;clear hK K))
   refine z3 fun K hK=>?_
   simp only [go_sem,hs,List.getElem?_map,Clue.row,hw]
   refine⟨_,.lent (hf:=hq s (List.mem_of_getElem? hs)) (hd:=z131 _ _ _ _ rfl) (hr:=rfl),?_⟩
   simp only [go_sem]
   apply hK
   clear hK K
   refine z6 rfl (fun hc=>?_) (fun hc=>?_)
   ·rw [hc,if_pos rfl] at hq0
    repeat (first|refine nx ?_|(refine z3 fun K hK=>?_;simp only [go_sem];apply hK;clear hK K))
    simp only [go_sem,hq0]
   ·rw [hc] at hq0
    repeat (first|refine nx ?_|(refine z3 fun K hK=>?_;simp only [go_sem,hw];apply hK;clear hK K))
    refine⟨rfl,i + 1,?_,⟨hlt,hq0⟩,by omega⟩
    refine weA ?_ ?_ <;> simp
  ·have he:i=xs.length:=by have:¬ i<xs.length:=by simpa using hb
                           omega
   subst he
   repeat (first|refine nx ?_|(refine z3 fun K hK=>?_;simp only [go_sem];apply hK;clear hK K))
   simp only [go_sem,hq0,List.drop_length,idxFrom]
theorem z1274 (xs:List Clue) (g:Nat) (caps:List DV) (q:Clue→Bool) (hq:∀ s ∈ xs,Fn Tryd.prog g (.agg s.row::caps) (.bool (q s))) (hl:xs.length<2 ^ 62):Fn Tryd.prog 82 [.sl (xs.map Clue.row),.fn g caps] (.bool (xs.any q)):=by
 refine z11 9 Tryd.call82 Tryd.func82 rfl (by decide) fun J=>?_
 simp only [go_sem,St.start,Tryd.ntmps82,Tryd.results82]
 repeat (first|refine nx ?_|(refine z3 fun K hK=>?_;simp only [go_sem];(repeat (first|(refine⟨_,.lent (hf:=z1254 xs g caps q hq hl) (hd:=rfl) (hr:=rfl),?_⟩;simp only [go_sem])|(refine⟨_,.given (hf:=z1254 xs g caps q hq hl) (hd:=rfl) (ha:=rfl),?_⟩;simp only [go_sem])));apply hK;clear hK K))
 simp only [go_sem,z42]
theorem z1296 (c:Clue) (place minute:Int) (hp:0≤place):Fn Tryd.prog 121 [.agg c.row,.ptr [.i minute] 0,.ptr [.i place] 0] (.bool (c.minute == minute && (hasB c.places place != c.seen))):=by
 have n1:¬ place<0:=by omega
 refine z11 20 Tryd.call121 Tryd.func121 rfl (by decide) fun J=>?_
 simp only [go_sem,St.start,Tryd.ntmps121,Tryd.results121,Clue.row]
 by_cases h:(c.minute == minute)=true
 ·repeat (first|refine nx ?_|(refine z3 fun K hK=>?_;simp only [go_sem,h,n1];apply hK;clear hK K)|(refine z8 (by kernel_rfl) (by kernel_rfl) fun K hK=>?_;simp only [go_sem,h,n1];refine⟨by kernel_rfl,hK _ ?_⟩;clear hK K))
  simp only [go_sem,h,hasB,Bool.true_and,bne]
 ·have h:(c.minute == minute)=false:=by simpa using h
  repeat (first|refine nx ?_|(refine z3 fun K hK=>?_;simp only [go_sem,h,n1];apply hK;clear hK K)|(refine z8 (by kernel_rfl) (by kernel_rfl) fun K hK=>?_;simp only [go_sem,h,n1];refine⟨by kernel_rfl,hK _ ?_⟩;clear hK K))
  simp only [go_sem,h,Bool.false_and]
theorem z1295 (c:Clue) (minute:Int):Fn Tryd.prog 122 [.agg c.row,.ptr [.i minute] 0] (.bool (c.minute == minute && c.seen)):=by
 refine z11 12 Tryd.call122 Tryd.func122 rfl (by decide) fun J=>?_
 simp only [go_sem,St.start,Tryd.ntmps122,Tryd.results122,Clue.row]
 by_cases h:(c.minute == minute)=true
 ·repeat (first|refine nx ?_|(refine z3 fun K hK=>?_;simp only [go_sem,h];apply hK;clear hK K)|(refine z8 (by kernel_rfl) (by kernel_rfl) fun K hK=>?_;simp only [go_sem,h];refine⟨by kernel_rfl,hK _ ?_⟩;clear hK K))
  simp only [go_sem,h,Bool.true_and]
 ·have h:(c.minute == minute)=false:=by simpa using h
  repeat (first|refine nx ?_|(refine z3 fun K hK=>?_;simp only [go_sem,h];apply hK;clear hK K)|(refine z8 (by kernel_rfl) (by kernel_rfl) fun K hK=>?_;simp only [go_sem,h];refine⟨by kernel_rfl,hK _ ?_⟩;clear hK K))
  simp only [go_sem,h,Bool.false_and]
theorem z1204 (n:Net) (x:Missed) (place minute:Int) (hp:0≤place) (hl:x.clues.length<2 ^ 62):Fn Tryd.prog 101 [.ptr (huntC n x) 0,.i place,.i minute] (.bool (atB x.clues place minute)):=by
 have h62:=z1274 x.clues 121 [.ptr [.i minute] 0,.ptr [.i place] 0] _ (fun c _=>z1296 c place minute hp) hl
 refine z11 15 Tryd.call101 Tryd.func101 rfl (by decide) fun J=>?_
 simp only [go_sem,St.start,Tryd.ntmps101,Tryd.results101,huntC]
 repeat (first|refine nx ?_|(refine z3 fun K hK=>?_;simp only [go_sem];(repeat (first|(refine⟨_,.lent (hf:=h62) (hd:=rfl) (hr:=rfl),?_⟩;simp only [go_sem])|(refine⟨_,.given (hf:=h62) (hd:=rfl) (ha:=rfl),?_⟩;simp only [go_sem])));apply hK;clear hK K))
 simp only [go_sem,atB]
theorem z1305 (n:Net) (x:Missed) (minute:Int) (hl:x.clues.length<2 ^ 62):Fn Tryd.prog 104 [.ptr (huntC n x) 0,.i minute] (.bool (onB8 x.clues minute)):=by
 have h62:=z1274 x.clues 122 [.ptr [.i minute] 0] _ (fun c _=>z1295 c minute) hl
 refine z11 13 Tryd.call104 Tryd.func104 rfl (by decide) fun J=>?_
 simp only [go_sem,St.start,Tryd.ntmps104,Tryd.results104,huntC]
 repeat (first|refine nx ?_|(refine z3 fun K hK=>?_;simp only [go_sem];(repeat (first|(refine⟨_,.lent (hf:=h62) (hd:=rfl) (hr:=rfl),?_⟩;simp only [go_sem])|(refine⟨_,.given (hf:=h62) (hd:=rfl) (ha:=rfl),?_⟩;simp only [go_sem])));apply hK;clear hK K))
 simp only [go_sem,onB8]
theorem z1275 (n:Net) (p:Party) (y:Int) (hn:0≤n.places∧n.places<2 ^ 62):Fn Tryd.prog 62 [.agg (countryC n p),.i y] (.bool (withinB y 0 (n.places - 1))):=by
 have hw:IntKind.i64.wrap (n.places - 1)=n.places - 1:=z10 (by omega)
 refine z11 11 Tryd.call62 Tryd.func62 rfl (by decide) fun J=>?_
 simp only [go_sem,St.start,Tryd.ntmps62,Tryd.results62,countryC,timesD,mapD]
 repeat (first|refine nx ?_|(refine z3 fun K hK=>?_;simp only [go_sem,hw];(repeat (first|(refine⟨_,.lent (hf:=z897 _ _ _) (hd:=rfl) (hr:=rfl),?_⟩;simp only [go_sem,hw])|(refine⟨_,.given (hf:=z897 _ _ _) (hd:=rfl) (ha:=rfl),?_⟩;simp only [go_sem,hw])));apply hK;clear hK K))
 simp only [go_sem]
theorem z1329 (n:Net) (x:Missed) (c:Clue) (hn:0≤n.places):Fn Tryd.prog 81 [.agg c.row,.ptr x.row 0,.ptr n.cells 0] (.bool (wrongC n x c)):=by
 have n1:¬ n.places<0:=by omega
 have e1:fullS n=IntKind.i64.wrap (bShl .i64 1 n.places - 1):=rfl
 refine z11 23 Tryd.call81 Tryd.func81 rfl (by decide) fun J=>?_
 simp only [go_sem,St.start,Tryd.ntmps81,Tryd.results81,Clue.row,Missed.row,Net.cells]
 repeat (first|refine nx ?_|(refine z3 fun K hK=>?_;simp only [go_sem];apply hK;clear hK K))
 refine z18 [(4,.d (.bool (wrongC n x c)))] [] ?_ ?_
 ·refine z8 (by kernel_rfl) (by kernel_rfl) fun K hK=>?_
  simp only [go_sem,n1]
  refine⟨_,.fn (hf:=z897 c.minute x.start x.now) (hd:=rfl) (hr:=.inl rfl),?_⟩
  simp only [go_sem,n1]
  by_cases ho0:(!withinB c.minute x.start x.now)=true
  ·simp only [go_sem,n1,ho0]
   refine⟨by kernel_rfl,hK _ ?_⟩
   clear hK K
   refine z7 ?_
   refine z4 ?_
   refine⟨rfl,?_⟩
   rw [show (wrongC n x c)=(true) from by simp [wrongC,ho0]]
   simp only [go_sem]
   refine weA ?_ ?_ <;> simp
  ·simp only [go_sem,n1,ho0]
   refine⟨_,.fn (hf:=z897 c.places 1 (fullS n)) (hd:=rfl) (hr:=.inl rfl),?_⟩
   simp only [go_sem,n1,ho0]
   refine⟨by kernel_rfl,hK _ ?_⟩
   clear hK K
   refine z7 ?_
   refine z4 ?_
   refine⟨rfl,?_⟩
   rw [show (wrongC n x c)=(!withinB c.places 1 (fullS n)) from by simp [wrongC,ho0]]
   simp only [go_sem]
   refine weA ?_ ?_ <;> simp
 repeat (first|refine nx ?_|(refine z3 fun K hK=>?_;simp only [go_sem];apply hK;clear hK K))
 simp only [go_sem]
end Go.Ab
namespace Go.Ab
open Go.RowKit Go.Proofs
set_option maxHeartbeats 4000000
set_option maxRecDepth 20000
attribute [local irreducible] WalkL Walk
def openD (n:Net) (x:Missed):DV:=if openX n x=0 then .ptr (huntC n x) 0 else .nilptr
theorem z1336 (n:Net) (x:Missed) (hs:n.Small) (hl:x.clues.length<2 ^ 30):Fn Tryd.prog 48 [.agg n.cells,.agg x.row] (.tup [openD n x,.i (openX n x)]):=by
 have h44:=z1284 n x.party hs
 rw [Party.cells] at h44
 refine z11 59 Tryd.call48 Tryd.func48 rfl (by decide) fun J=>?_
 simp only [go_sem,St.start,Tryd.ntmps48,Tryd.results48,Net.cells,Missed.row]
 by_cases hok:checkPartyF n x.party=0
 ·have hnb:¬ badNet n=true:=by
   intro hb
   rw [checkPartyF,if_pos hb] at hok
   simp at hok
  have hpl:=z116 hnb
  rw [travC,if_pos hok,countryC,timesD,mapD,hok] at h44
  have h45:=z1275 n x.party x.place (by omega)
  rw [countryC,timesD,mapD] at h45
  repeat (first|refine nx ?_|(refine z3 fun K hK=>?_;simp only [go_sem];(repeat (first|(refine⟨_,.lent (hf:=h44) (hd:=rfl) (hr:=rfl),?_⟩;simp only [go_sem])|(refine⟨_,.given (hf:=h44) (hd:=rfl) (ha:=rfl),?_⟩;simp only [go_sem])));apply hK;clear hK K))
  refine z5 rfl ?_
  repeat (first|refine nx ?_|(refine z3 fun K hK=>?_;simp only [go_sem];apply hK;clear hK K))
  refine z18 [(43,.d (.bool (badHunt n x)))] [] ?_ ?_
  ·refine z3 fun K hK=>?_
   simp only [go_sem]
   refine⟨_,.lent (hf:=h45) (hd:=rfl) (hr:=rfl),?_⟩
   simp only [go_sem]
   by_cases ho0:(!withinB x.place 0 (n.places - 1))=true
   ·simp only [go_sem,ho0]
    apply hK
    clear hK K
    refine z7 ?_
    refine z4 ?_
    refine⟨rfl,?_⟩
    rw [show (badHunt n x)=(true) from by simp [badHunt,ho0]]
    simp only [go_sem]
    refine weA ?_ ?_ <;> simp
   ·simp only [go_sem,ho0]
    refine⟨_,.lent (hf:=z897 x.start 0 2880) (hd:=rfl) (hr:=rfl),?_⟩
    simp only [go_sem,ho0]
    by_cases ho1:(!withinB x.start 0 2880)=true
    ·simp only [go_sem,ho0,ho1]
     apply hK
     clear hK K
     refine z7 ?_
     refine z4 ?_
     refine⟨rfl,?_⟩
     rw [show (badHunt n x)=(true) from by simp [badHunt,ho0,ho1]]
     simp only [go_sem]
     refine weA ?_ ?_ <;> simp
    ·simp only [go_sem,ho0,ho1]
     refine⟨_,.lent (hf:=z897 x.rest 0 600) (hd:=rfl) (hr:=rfl),?_⟩
     simp only [go_sem,ho0,ho1]
     by_cases ho2:(!withinB x.rest 0 600)=true
     ·simp only [go_sem,ho0,ho1,ho2]
      apply hK
      clear hK K
      refine z7 ?_
      refine z4 ?_
      refine⟨rfl,?_⟩
      rw [show (badHunt n x)=(true) from by simp [badHunt,ho0,ho1,ho2]]
      simp only [go_sem]
      refine weA ?_ ?_ <;> simp
     ·simp only [go_sem,ho0,ho1,ho2]
      refine⟨_,.lent (hf:=z897 x.now x.start 2880) (hd:=rfl) (hr:=rfl),?_⟩
      simp only [go_sem,ho0,ho1,ho2]
      apply hK
      clear hK K
      refine z7 ?_
      refine z4 ?_
      refine⟨rfl,?_⟩
      rw [show (badHunt n x)=(!withinB x.now x.start 2880) from by simp [badHunt,ho0,ho1,ho2]]
      simp only [go_sem]
      refine weA ?_ ?_ <;> simp
  simp only [go_sem]
  by_cases hb:badHunt n x=true
  ·have e:openX n x=80:=by simp [openX,hok,hb]
   rw [openD,e]
   refine z6 (b:=true) (by rw [← hb];rfl) (fun _=>?_) (fun hc=>by cases hc)
   repeat (first|refine nx ?_|(refine z3 fun K hK=>?_;simp only [go_sem];apply hK;clear hK K))
   simp only [go_sem]
  ·have hb:badHunt n x=false:=by simpa using hb
   refine z6 (b:=false) (by rw [← hb];rfl) (fun hc=>by cases hc) (fun _=>?_)
   have h61:∀ c ∈ x.clues,Fn Tryd.prog 81 [.agg c.row,.ptr [.i x.party.grade,.i x.party.load,.i x.party.pace.lo,.i x.party.pace.hi,.i x.place,.i x.start,.i x.now,.i x.rest,.sl (x.clues.map Clue.row)] 0,.ptr [.i n.places,.sl (n.paths.map Path.row)] 0] (.bool (wrongC n x c)):=fun c _=>z1329 n x c (by omega)
   have h62:=z1274 x.clues 81 _ _ h61 (by omega)
   by_cases h12:decide ((x.clues.length:Int) > 12)=true
   ·repeat (first|refine nx ?_|(refine z3 fun K hK=>?_;simp only [go_sem,h12];apply hK;clear hK K))
    refine z9 rfl ?_
    repeat (first|refine nx ?_|(refine z3 fun K hK=>?_;simp only [go_sem];apply hK;clear hK K))
    have e:openX n x=81:=by simp only [openX,hok,hb,h12,Bool.true_or];rfl
    rw [openD,e]
    simp only [go_sem]
   ·have h12:decide ((x.clues.length:Int) > 12)=false:=by simpa using h12
    repeat (first|refine nx ?_|(refine z3 fun K hK=>?_;simp only [go_sem,h12];(repeat (first|(refine⟨_,.lent (hf:=h62) (hd:=rfl) (hr:=rfl),?_⟩;simp only [go_sem,h12])|(refine⟨_,.given (hf:=h62) (hd:=rfl) (ha:=rfl),?_⟩;simp only [go_sem,h12])));apply hK;clear hK K))
    by_cases hw:x.clues.any (wrongC n x)=true
    ·simp only [go_sem,hw]
     refine z9 rfl ?_
     repeat (first|refine nx ?_|(refine z3 fun K hK=>?_;simp only [go_sem];apply hK;clear hK K))
     have e:openX n x=81:=by simp only [openX,hok,hb,h12,hw,Bool.false_or];rfl
     rw [openD,e]
     simp only [go_sem]
    ·have hw:x.clues.any (wrongC n x)=false:=by simpa using hw
     simp only [go_sem,hw]
     refine z5 rfl ?_
     repeat (first|refine nx ?_|(refine z3 fun K hK=>?_;simp only [go_sem];apply hK;clear hK K))
     have e:openX n x=0:=by simp only [openX,hok,hb,h12,hw,Bool.false_or];rfl
     rw [openD,e]
     simp only [go_sem,huntC,timesD,mapD]
 ·have e:openX n x=checkPartyF n x.party:=by simp [openX,hok]
  rw [travC,if_neg hok] at h44
  rw [openD,e,if_neg hok]
  have hne:(checkPartyF n x.party != 0)=true:=by simpa using hok
  repeat (first|refine nx ?_|(refine z3 fun K hK=>?_;simp only [go_sem];(repeat (first|(refine⟨_,.lent (hf:=h44) (hd:=rfl) (hr:=rfl),?_⟩;simp only [go_sem])|(refine⟨_,.given (hf:=h44) (hd:=rfl) (ha:=rfl),?_⟩;simp only [go_sem])));apply hK;clear hK K))
  refine z6 rfl (fun _=>?_) (fun hc=>by rw [hne] at hc;cases hc)
  repeat (first|refine nx ?_|(refine z3 fun K hK=>?_;simp only [go_sem];apply hK;clear hK K))
  simp only [go_sem]
end Go.Ab
namespace Go.Ab
open Go.RowKit
inductive Sh where
 | int (k:IntKind)
 | bool
 | sl (row:List Sh)
mutual
def Sh.fits (N:Nat):Sh→DV→Prop
 | .int k,d=>∃ n,d=.int k n∧(Lit.int k n).wf=true
 | .bool,d=>∃ b,d=.bool b
 | .sl r,d=>∃ rows,d=.sl rows∧rows.length≤N∧∀ row ∈ rows,Sh.fitsL N r row
def Sh.fitsL (N:Nat):List Sh→List DV→Prop
 | [],ds=>ds=[]
 | s::ss,ds=>∃ d r,ds=d::r∧Sh.fits N s d∧Sh.fitsL N ss r
end
theorem Sh.fitsL_len {N:Nat}:∀ {ss:List Sh} {ds:List DV},Sh.fitsL N ss ds→ds.length=ss.length
 | [],_,h=>by simp only [Sh.fitsL] at h;subst h;rfl
 | s::ss,ds,h=>by
  simp only [Sh.fitsL] at h
  obtain⟨d,r,rfl,_,h⟩:=h
  simp [Sh.fitsL_len h]
theorem Sh.fitsL_append {N:Nat}:∀ {ss ts:List Sh} {ds es:List DV},Sh.fitsL N ss ds→Sh.fitsL N ts es→Sh.fitsL N (ss++ts) (ds++es)
 | [],_,_,_,h,k=>by simp only [Sh.fitsL] at h;subst h;simpa using k
 | s::ss,ts,ds,es,h,k=>by
  simp only [Sh.fitsL] at h
  obtain⟨d,r,rfl,hd,h⟩:=h
  simp only [List.cons_append,Sh.fitsL]
  exact⟨d,r++es,rfl,hd,Sh.fitsL_append h k⟩
def shapesF (P:Program) (g:TypeId→Option (List Sh)):List Field→Nat→Option (List Sh)
 | [],_=>some []
 | f::fs,o=>if f.offset=o then (g f.type).bind fun r=>if P.cellsOf f.type=r.length then (shapesF P g fs (o + r.length)).map fun s=>r++s else none else none
def shapes (P:Program):Nat→TypeId→Option (List Sh)
 | 0,_=>none
 | n + 1,t=>match P.underlying t with
  | some .bool=>some [.bool]
  | some (.int k)=>some [.int k]
  | some (.slice e)=>(shapes P n e).bind fun r=>if P.cellsOf e=r.length∧0<r.length then some [.sl r] else none
  | some (.struct fs)=>(shapesF P (shapes P n) fs.toList 0).bind fun r=>if P.cellsOf t=r.length then some r else none
  | _=>none
structure BulkOk {H:Type} (b:DataW H→Nat):Prop where
 slice:∀ elems spare,elems.length≤b (.slice elems spare)
 elem:∀ elems spare,∀ d ∈ elems,b d≤b (.slice elems spare)
 part:∀ parts,∀ d ∈ parts,b d≤b (.agg parts)
def Reads (w:World) (ds:List DV) (cs:List Value):Prop :=
 ∀ (i:Nat) d v,ds[i]?=some d→cs[i]?=some v→v.oneCell'=true∧DRel w (fun _=>False) d v
section
variable {H:Type} {enc:TypeId × Value→H} {P:Program} {w:World} {sp:Nat→Bool} {held:Bool}
theorem z1256 {b:DataW H→Nat} {N:Nat} {g:TypeId→Option (List Sh)} {m:Nat} {cs:List Value}
  (hg:∀ (t:TypeId) sh,g t=some sh→∀ cs d ps,DataW.trod enc P w 0 sp held m t cs=some (d,ps)→b d≤N→cs.length=sh.length∧∃ ds,Sh.fitsL N sh ds∧Reads w ds cs) :
  ∀ (fs:List Field) (xs:List (DataW H × List MemPlace)) (o:Nat) (sh:List Sh),shapesF P g fs o=some sh→xs.length=fs.length →
   (∀ (i:Nat) (f:Field),fs[i]?=some f→DataW.trod enc P w 0 sp held m f.type ((cs.drop f.offset).take (P.cellsOf f.type))=xs[i]?)→(∀ x ∈ xs,b x.1≤N) →
   ∃ ds,Sh.fitsL N sh ds∧Reads w ds (cs.drop o)
 | [],xs,o,sh,h,hl,_,_=>by
  simp only [shapesF,Option.some.injEq] at h
  subst h
  exact⟨[],by simp [Sh.fitsL],fun i d v h=>by simp at h⟩
 | f::fs,xs,o,sh,h,hl,hx,hb=>by
  simp only [shapesF] at h
  split at h
  case isFalse=>cases h
  case isTrue ho =>
  obtain⟨r,hr,h⟩:=Option.bind_eq_some_iff.1 h
  split at h
  case isFalse=>cases h
  case isTrue hc =>
  obtain⟨s,hs,rfl⟩:=Option.map_eq_some_iff.1 h
  cases xs with
  | nil=>simp at hl
  | cons x xs =>
   have h0:=hx 0 f rfl
   rw [List.getElem?_cons_zero] at h0
   obtain⟨hlen,ds,hf,hd⟩:=hg _ _ hr _ x.1 x.2 h0 (hb x (by simp))
   obtain⟨es,he,hd'⟩:=z1256 hg fs xs (o + r.length) s hs (by simpa using hl) (fun i f' hf'=>by simpa using hx (i + 1) f' (by simpa using hf')) (fun y hy=>hb y (by simp [hy]))
   have hdl:=Sh.fitsL_len hf
   refine⟨ds++es,Sh.fitsL_append hf he,fun i d v h1 h2=>?_⟩
   rw [List.getElem?_drop] at h2
   rcases Nat.lt_or_ge i ds.length with hi | hi
   ·rw [List.getElem?_append_left hi] at h1
    refine hd i d v h1 ?_
    rw [List.getElem?_take,List.getElem?_drop,ho,if_pos (by omega),h2]
   ·rw [List.getElem?_append_right hi] at h1
    refine hd' (i - ds.length) d v h1 ?_
    rw [List.getElem?_drop]
    rw [show o + r.length + (i - ds.length)=o + i from by omega,h2]
theorem z1106 {w:World} {a:Addr} {n:Nat} {cs:List Value} (h:w.cells? 0 a n=some cs):cs.length=n∧∀ j,j<n→w.cell? (a.add j)=cs[j]?:=by
 simp only [World.cells?,Nat.zero_le,if_true] at h
 exact⟨by simpa using mapM_some_length h,fun j hj=>mapM_some_get h j j (by simp [hj])⟩
theorem z1107 {w:World} {a:Addr} {v:Value} (h:w.cell? a=some v):a.spot=none:=by
 unfold World.cell? at h
 split at h
 ·split at h
  ·cases h
  ·cases hs:a.spot <;> simp_all
 ·cases h
theorem z308 {b:DataW H→Nat} (hb:BulkOk b) (N:Nat):∀ (n:Nat) (t:TypeId) (sh:List Sh),shapes P n t=some sh→∀ fuel cs d ps,DataW.trod enc P w 0 sp held fuel t cs=some (d,ps)→b d≤N →
  cs.length=sh.length∧∃ ds,Sh.fitsL N sh ds∧Reads w ds cs
 | 0,_,_,h=>by simp [shapes] at h
 | n + 1,t,sh,h=>by
  intro fuel cs d ps hd hN
  unfold shapes at h
  split at h
  case h_1 ht =>
   cases h
   obtain⟨v,rfl,_⟩:=DataW.trod_bool ht hd
   refine⟨rfl,[.bool v],?_,?_⟩
   ·simp [Sh.fitsL,Sh.fits]
   ·intro i d' v' h1 h2
    cases i with
    | zero=>simp only [List.getElem?_cons_zero,Option.some.injEq] at h1 h2;subst h1;subst h2;exact⟨rfl,.bool _⟩
    | succ i=>simp at h1
  case h_2 k ht =>
   cases h
   obtain⟨v,rfl,_,hw⟩:=DataW.trod_int ht hd
   refine⟨rfl,[.int k v],?_,?_⟩
   ·simpa [Sh.fitsL,Sh.fits] using hw
   ·intro i d' v' h1 h2
    cases i with
    | zero=>simp only [List.getElem?_cons_zero,Option.some.injEq] at h1 h2;subst h1;subst h2;exact⟨rfl,.int _ _⟩
    | succ i=>simp at h1
  case h_3 e ht =>
   obtain⟨r,hr,h⟩:=Option.bind_eq_some_iff.1 h
   split at h
   case isFalse=>cases h
   case isTrue hc =>
   obtain⟨hc,hp⟩:=hc
   cases h
   rcases DataW.trod_slice ht hd with ⟨rfl,_⟩ | ⟨a,len,cap,elems,rest,m,rfl,rfl,hx,_,hcap,_,hl,hel,_⟩
   ·refine⟨rfl,[.sl []],?_,?_⟩
    ·simp [Sh.fitsL,Sh.fits]
    ·intro i d' v' h1 h2
     cases i with
     | zero=>simp only [List.getElem?_cons_zero,Option.some.injEq] at h1 h2;subst h1;subst h2;exact⟨rfl,.slNil⟩
     | succ i=>simp at h1
   ·obtain rfl:d=.slice (elems.map (·.1)) (rest.map (·.1)):=congrArg Prod.fst hx
    have hrow:∀ i:Nat,∃ ds:List DV,i<len→Sh.fitsL N r ds∧∀ j d,ds[j]?=some d→∃ v,w.cell? (a.add (i * r.length) |>.add j)=some v∧v.oneCell'=true∧DRel w (fun _=>False) d v:=by
     intro i
     by_cases hi:i<len
     ·have h1:=hel i hi
      rw [List.getElem?_eq_getElem (by omega)] at h1
      obtain⟨cs',hcs,htr⟩:=Option.bind_eq_some_iff.1 h1
      have hin:(elems[i]'(by omega)).1 ∈ elems.map (·.1):=List.mem_map.2 ⟨_,List.getElem_mem _,rfl⟩
      obtain⟨hlen,ds,hf,hds⟩:=z308 hb N n e r hr m cs' (elems[i]'(by omega)).1 (elems[i]'(by omega)).2 htr (Nat.le_trans (hb.elem _ _ _ hin) hN)
      refine⟨ds,fun _=>⟨hf,fun j d hj=>?_⟩⟩
      have hjl:j<ds.length:=by
       rcases Nat.lt_or_ge j ds.length with h | h
       ·exact h
       ·rw [List.getElem?_eq_none h] at hj;cases hj
      rw [Sh.fitsL_len hf] at hjl
      have hcell:=(z1106 hcs).2 j (by omega)
      rw [hc] at hcell
      have hv:cs'[j]?=some (cs'[j]'(by omega)):=List.getElem?_eq_getElem _
      rw [hv] at hcell
      exact⟨_,hcell,hds j d _ hj hv⟩
     ·exact⟨[],fun h=>absurd h hi⟩
    have hcho:=Classical.axiomOfChoice hrow
    obtain⟨F,hF⟩:=hcho
    have hrl:((List.range len).map F).length=len:=by simp
    refine⟨rfl,[.sl ((List.range len).map F)],?_,?_⟩
    ·simp only [Sh.fitsL,Sh.fits]
     refine⟨_,_,rfl,⟨_,rfl,?_,?_⟩,rfl⟩
     ·rw [hrl]
      have:=hb.slice (elems.map (·.1)) (rest.map (·.1))
      simp only [List.length_map] at this
      omega
     ·intro row hrow
      obtain⟨i,hi,rfl⟩:=List.mem_map.1 hrow
      exact (hF i (by simpa using hi)).1
    ·intro i d' v' h1 h2
     cases i with
     | succ i=>simp at h1
     | zero =>
      simp only [List.getElem?_cons_zero,Option.some.injEq] at h1 h2
      subst h1;subst h2
      refine⟨rfl,?_⟩
      cases hlen:len with
      | zero=>exact .slEmpty _ _
      | succ l =>
       have hspot:a.spot=none:=by
        have h0:=hF 0 (by omega)
        have hfl:=Sh.fitsL_len h0.1
        obtain⟨v,hv,_⟩:=h0.2 0 ((F 0)[0]'(by omega)) (List.getElem?_eq_getElem _)
        simp only [Nat.zero_mul,Addr.add,if_true] at hv
        exact z1107 hv
       obtain⟨blk,off,spot⟩:=a
       simp only at hspot
       subst hspot
       have hadd:∀ i j,(Addr.add (Addr.add ⟨blk,off,none⟩ (i * r.length)) j)=⟨blk,off + i * r.length + j,none⟩:=by
        intro i j
        unfold Addr.add
        by_cases h1:i * r.length=0 <;> by_cases h2:j=0 <;> simp [h1,h2]
       have hall:∀ (i:Nat) (r':List DV) (j:Nat) (d:DV),((List.range len).map F)[i]?=some r'→r'[j]?=some d→∃ v,w.cell? ⟨blk,off + i * r.length + j,none⟩=some v∧v.oneCell'=true∧DRel w (fun _=>False) d v:=by
        intro i r' j d h1 h2
        rw [List.getElem?_map] at h1
        obtain⟨i',hi',rfl⟩:=Option.map_eq_some_iff.1 h1
        obtain⟨hil,rfl⟩:=List.getElem?_eq_some_iff.1 hi'
        simp only [List.length_range] at hil
        simp only [List.getElem_range] at h2
        obtain⟨v,hv,h3,h4⟩:=(hF i hil).2 j d h2
        rw [hadd] at hv
        exact⟨v,hv,h3,h4⟩
       have hfin:=DRel.sl (w:=w) (own:=fun _=>False) ((List.range len).map F) blk off r.length cap (fun i j=>(w.cell? ⟨blk,off + i * r.length + j,none⟩).getD .nilFunc) (by rw [hrl];exact hcap)
        (by
         intro row hrow
         obtain⟨i,hi,rfl⟩:=List.mem_map.1 hrow
         exact Sh.fitsL_len (hF i (by simpa using hi)).1)
        (by
         intro i r' j d h1 h2
         obtain⟨v,hv,h3,_⟩:=hall i r' j d h1 h2
         rw [hv]
         exact⟨fun h=>h,rfl,h3⟩)
        (by
         intro i r' j d h1 h2
         obtain⟨v,hv,_,h4⟩:=hall i r' j d h1 h2
         simp only [hv,Option.getD_some]
         exact h4)
       rw [hrl] at hfin
       rw [hlen] at hfin
       exact hfin
  case h_4 fs ht =>
   obtain⟨r,hr,h⟩:=Option.bind_eq_some_iff.1 h
   split at h
   case isFalse=>cases h
   case isTrue hc =>
   cases h
   obtain⟨xs,m,rfl,hx,hl,hxl,hi⟩:=DataW.trod_struct ht hd
   obtain rfl:d=.agg (xs.map (·.1)):=congrArg Prod.fst hx
   obtain⟨ds,hf,hds⟩:=z1256 (fun t sh h cs d ps hd hN=>z308 hb N n t sh h m cs d ps hd hN) fs.toList xs 0 sh hr (by simpa using hxl) (fun i f hf=>hi i f (by simpa using hf))
    (fun x hx=>Nat.le_trans (hb.part _ _ (List.mem_map.2 ⟨x,hx,rfl⟩)) hN)
   exact⟨by omega,ds,hf,by simpa using hds⟩
  case h_5=>cases h
end
end Go.Ab
/- The z1338 from a walked contract to a statement's contract,for arguments of any number and of the types that the statements take;where what is read is of bulk at most the bound. -/
namespace Go.Ab
open Go.RowKit Go.Proofs Go.ChangeShapes Go.WideShapes Go.Proofs.YtfkbbaagifpjpaaDoor
set_option linter.unusedVariables false
set_option maxRecDepth 100000
section
variable {H:Type} {enc:TypeId × Value→H} {P:Program}
theorem z537 {f:Func} {s:ChangeSpec} {apart fresh handsOn again:Bool} {W W':World} {args:Array Value} {v:Value} {ds gs:List (DataW H)} {before pa pv:List MemPlace}
  (hW:DataW.Whole enc P f.params.toList s.vars apart W args.toList ds gs before)
  (hres:∀ (b:Nat) (sp:Nat→Bool) (hd:Bool),DataW.TrodAll enc P W' b sp hd f.resultTypes.toList (v.resultList f.resultTypes.size) (s.fn H (ds++gs)).results [])
  (hargs:∀ sp:Nat→Bool,(∀ p ∈ before,sp p.block=true)→DataW.TrodAll enc P W' 0 sp true f.params.toList args.toList (s.fn H (ds++gs)).args pa)
  (hvars:∀ sp:Nat→Bool,(∀ p ∈ before,sp p.block=true)→DataW.TrodVars enc P W' sp s.vars (s.fn H (ds++gs)).vars pv)
  (hps:before=pa++pv) (hb:Below W.heap.size W W')
  (hok:∀ (j:Nat) (t:TypeId) (r:Value),f.resultTypes[j]?=some t→(v.resultList f.resultTypes.size)[j]?=some r→Value.okWide P W' .any 0 t r) :
  s.post enc P f apart fresh handsOn again W args v W':=by
 have hlt:=hW.lt
 have hold:∀ p ∈ before,(fun b=>decide (b<W.heap.size)) p.block=true:=fun p hp=>by simpa using hlt p hp
 refine⟨ds,gs,before,[],pa,pv,hW,hres _ _ _,hargs _ hold,hvars _ hold,World.keptBut_mono (fun p hp=>⟨hp,?_⟩) (hb.frame (· ∈ before)),fun _=>?_⟩
 ·rw [hps,List.mem_append] at hp
  exact Or.inr hp
 ·obtain⟨_,_,_,_,_,hz,hn⟩:=hW
  refine⟨hok,_,_,([]++pa)++pv,⟨[]++pa,pv,trodAll_append (hargs _ (fun _ _=>rfl)) (hres _ _ _),hvars _ (fun _ _=>rfl),rfl,?_,?_⟩,?_⟩
  ·intro b off hp
   have hp':MemPlace.cell b off ∈ before:=by rw [hps];simpa using hp
   rw [hb.frozen (p:=⟨b,off,none⟩) (hlt _ hp')]
   exact hz b off hp'
  ·intro ha
   have:=hn ha
   rw [hps] at this
   simpa using this
  ·intro p hp _
   rw [hps]
   simpa using hp
end
theorem z535 {α:Type} {row:α→List DV} {Q:α→Prop}:∀ {rows:List (List DV)},(∀ r ∈ rows,∃ a,r=row a∧Q a)→∃ l:List α,rows=l.map row∧∀ a ∈ l,Q a
 | [],_=>⟨[],rfl,fun _ h=>by cases h⟩
 | r::rs,h=>by
  obtain⟨a,rfl,ha⟩:=h r (by simp)
  obtain⟨l,rfl,hl⟩:=z535 (rows:=rs) (fun r hr=>h r (by simp [hr]))
  exact⟨a::l,rfl,fun b hb=>by rcases List.mem_cons.1 hb with rfl | hb;exact ha;exact hl b hb⟩
def iS:Sh:=.int .i64
def spanS:List Sh:=[iS,iS]
def pathS:List Sh:=[iS,iS,iS,iS,iS,iS,iS,.sl spanS]
def netS:List Sh:=[iS,.sl pathS]
def partyS:List Sh:=[iS,iS,iS,iS]
def clueS:List Sh:=[iS,iS,.bool]
def missedS:List Sh:=[iS,iS,iS,iS,iS,iS,iS,iS,.sl clueS]
theorem z1206 {N:Nat} {r:List DV} (h:Sh.fitsL N spanS r):∃ s:Span,r=s.row∧True:=by
 simp only [spanS,iS,Sh.fitsL,Sh.fits] at h
 obtain⟨_,_,rfl,⟨a,rfl,_⟩,_,_,rfl,⟨b,rfl,_⟩,rfl⟩:=h
 exact⟨⟨a,b⟩,rfl,trivial⟩
theorem z1209 {N:Nat} {r:List DV} (h:Sh.fitsL N pathS r):∃ x:Path,r=x.row∧x.opens.length≤N:=by
 simp only [pathS,iS,Sh.fitsL,Sh.fits] at h
 obtain⟨_,_,rfl,⟨a,rfl,_⟩,_,_,rfl,⟨b,rfl,_⟩,_,_,rfl,⟨c,rfl,_⟩,_,_,rfl,⟨d,rfl,_⟩,_,_,rfl,⟨e,rfl,_⟩,_,_,rfl,⟨f,rfl,_⟩,_,_,rfl,⟨g,rfl,_⟩,_,_,rfl,⟨rows,rfl,hl,hr⟩,rfl⟩:=h
 obtain⟨l,rfl,_⟩:=z535 (fun r h=>z1206 (hr r h))
 exact⟨⟨a,b,c,⟨d,e⟩,⟨f,g⟩,l⟩,rfl,by simpa using hl⟩
theorem z1260 {N:Nat} (hN:N<2 ^ 30) {r:List DV} (h:Sh.fitsL N netS r):∃ n:Net,r=n.cells∧n.Small:=by
 simp only [netS,iS,Sh.fitsL,Sh.fits] at h
 obtain⟨_,_,rfl,⟨a,rfl,_⟩,_,_,rfl,⟨rows,rfl,hl,hr⟩,rfl⟩:=h
 obtain⟨l,rfl,hq⟩:=z535 (fun r h=>z1209 (hr r h))
 refine⟨⟨a,l⟩,rfl,⟨?_,fun x hx=>?_⟩⟩
 ·have:l.length≤N:=by simpa using hl
  show l.length<2 ^ 30
  omega
 ·have:=hq x hx
  omega
theorem z1238 {N:Nat} {r:List DV} (h:Sh.fitsL N clueS r):∃ c:Clue,r=c.row∧True:=by
 simp only [clueS,iS,Sh.fitsL,Sh.fits] at h
 obtain⟨_,_,rfl,⟨a,rfl,_⟩,_,_,rfl,⟨b,rfl,_⟩,_,_,rfl,⟨c,rfl⟩,rfl⟩:=h
 exact⟨⟨a,b,c⟩,rfl,trivial⟩
theorem z1074 {N:Nat} (hN:N<2 ^ 30) {r:List DV} (h:Sh.fitsL N missedS r):∃ x:Missed,r=x.row∧x.clues.length<2 ^ 30:=by
 simp only [missedS] at h
 simp only [iS,Sh.fitsL,Sh.fits] at h
 obtain⟨_,_,rfl,⟨a,rfl,_⟩,_,_,rfl,⟨b,rfl,_⟩,_,_,rfl,⟨c,rfl,_⟩,_,_,rfl,⟨d,rfl,_⟩,_,_,rfl,⟨e,rfl,_⟩,_,_,rfl,⟨f,rfl,_⟩,_,_,rfl,⟨g,rfl,_⟩,_,_,rfl,⟨i,rfl,_⟩,_,_,rfl,⟨rows,rfl,hl,hr⟩,rfl⟩:=h
 obtain⟨cl,rfl,_⟩:=z535 (fun r h=>z1238 (hr r h))
 have e1:cl.length≤N:=by simpa using hl
 exact⟨⟨⟨a,b,⟨c,d⟩⟩,e,f,g,i,cl⟩,rfl,by show cl.length<2 ^ 30;omega⟩
theorem z1311:shapes Tryd.prog 20 24=some netS:=by kernel_rfl
theorem z1160:shapes Tryd.prog 20 31=some missedS:=by kernel_rfl
theorem z560 {H:Type}:∀ {l:List (DataW H)} {d:DataW H},d ∈ l→Rows.uptoBulk d≤Rows.uptoBulkAll l
 | x::r,d,h=>by
  simp only [Rows.uptoBulkAll]
  rcases List.mem_cons.1 h with rfl | h
  ·omega
  ·have:=z560 h
   omega
theorem z1195 {H:Type} (d:DataW H):1≤Rows.uptoBulk d:=by
 cases d with
 | lit l=>cases l <;> simp [Rows.uptoBulk]
 | _=>simp [Rows.uptoBulk]
theorem z918 {H:Type}:∀ (l:List (DataW H)),l.length≤Rows.uptoBulkAll l
 | []=>by simp
 | x::r=>by
  have h1:=z1195 x
  have h2:=z918 r
  simp only [Rows.uptoBulkAll,List.length_cons]
  omega
theorem z1271 {H:Type}:BulkOk (Rows.uptoBulk (H:=H)) where
 slice:=fun elems spare=>by
  have:=z918 elems
  simp only [Rows.uptoBulk]
  omega
 elem:=fun elems spare d hd=>by
  have:=z560 hd
  simp only [Rows.uptoBulk]
  omega
 part:=fun parts d hd=>by
  have:=z560 hd
  simp only [Rows.uptoBulk]
  omega
structure Rd (t:TypeId) (C:DV→Prop):Prop where
 rec':Tryd.prog.readableRec t=true
 lt:t<Tryd.prog.types.size
 read:∀ (H:Type) (enc:TypeId × Value→H) (w:World) (base:Nat) (v:Value) (d:DataW H) (ps:List MemPlace),Value.okWide Tryd.prog w .any base t v→DataW.Trod enc Tryd.prog w 0 (fun _=>true) true t v d ps→Rows.uptoBulk d≤1048576→∃ x,C x∧DRel w (fun _=>False) x v
theorem z924 {H:Type} {enc:TypeId × Value→H} {w:World} {t:TypeId} {sh:List Sh} (hs:shapes Tryd.prog 20 t=some sh) (h2:2≤sh.length) {v:Value} {d:DataW H} {ps:List MemPlace}
  (h:DataW.Trod enc Tryd.prog w 0 (fun _=>true) true t v d ps) (hd:Rows.uptoBulk d≤1048576) :
  ∃ ds,Sh.fitsL 1048576 sh ds∧DRel w (fun _=>False) (.agg ds) v:=by
 obtain⟨fuel,h⟩:=h
 obtain⟨hl,ds,hf,hr⟩:=z308 z1271 1048576 20 t sh hs fuel _ _ _ h hd
 have hdl:=Sh.fitsL_len hf
 refine⟨ds,hf,?_⟩
 cases v with
 | agg cs =>
  simp only [Value.cells] at hl hr
  exact .agg _ _ (by simpa [hdl] using hl.symm) fun i d v h1 h2=>(hr i d v h1 (by simpa using h2)).2
 | _=>simp [Value.cells] at hl;omega
theorem z1307:Rd 24 (fun x=>∃ n:Net,x=.agg n.cells∧n.Small) :=
 ⟨by kernel_rfl,of_decide_eq_true (by kernel_rfl),fun H enc w base v d ps hok h hd=>by
  obtain⟨e0,hf0,r0⟩:=z924 z1311 (by decide) h hd
  obtain⟨n,rfl,hsm⟩:=z1260 (by decide) hf0
  exact⟨_,⟨n,rfl,hsm⟩,r0⟩⟩
theorem z1144:Rd 31 (fun x=>∃ m:Missed,x=.agg m.row∧m.clues.length<2 ^ 30) :=
 ⟨by kernel_rfl,of_decide_eq_true (by kernel_rfl),fun H enc w base v d ps hok h hd=>by
  obtain⟨e0,hf0,r0⟩:=z924 z1160 (by decide) h hd
  obtain⟨m,rfl,hm⟩:=z1074 (by decide) hf0
  exact⟨_,⟨m,rfl,hm⟩,r0⟩⟩
abbrev aN:TypeId × (DV→Prop):=(24,fun x=>∃ n:Net,x=.agg n.cells∧n.Small)
abbrev aP:TypeId × (DV→Prop):=(28,fun x=>∃ p:Party,x=.agg p.cells)
abbrev aM:TypeId × (DV→Prop):=(31,fun x=>∃ m:Missed,x=.agg m.row∧m.clues.length<2 ^ 30)
def tabLaid : List (String × DataW Unit) := [("math/bits.deBruijn32tab", Rows.laid_math_bits_deBruijn32tab), ("math/bits.deBruijn64tab", Rows.laid_math_bits_deBruijn64tab)]
theorem gTab : Tryd.prog.globalNamed "math/bits.deBruijn64tab" = some 1 := by kernel_rfl
theorem tTab:(Tryd.prog.globals[1]?).map (·.type)=some 221:=by kernel_rfl
def tabL:List Int:=[0,1,56,2,57,49,28,3,61,58,42,50,38,29,17,4,62,47,59,36,45,43,51,22,53,39,33,30,24,18,12,5,63,55,48,27,60,41,37,16,46,35,44,21,52,32,23,11,54,26,40,15,34,20,31,10,25,14,19,9,13,8,7,6]
theorem z1044:(Rows.laid_math_bits_deBruijn64tab:DataW Unit)=.agg (tabL.map fun i=>.lit (.int .u8 i)):=rfl
theorem z695 {α β:Type} (g:α→Option β):∀ (l:List α) (r:List β),l.mapM g=some r→r.length=l.length∧∀ (i:Nat) a b,l[i]?=some a→r[i]?=some b→g a=some b
 | [],r,h=>by
  simp at h;subst h
  exact⟨rfl,fun i a b h=>by simp at h⟩
 | x::l,r,h=>by
  simp only [List.mapM_cons,Option.bind_eq_bind,Option.pure_def,Option.bind_eq_some_iff] at h
  obtain⟨b,hb,rs,hr,h⟩:=h
  cases h
  obtain⟨h1,h2⟩:=z695 g l rs hr
  refine⟨by simp [h1],fun i a b' ha hb'=>?_⟩
  cases i with
  | zero=>simp at ha hb';subst ha;subst hb';exact hb
  | succ i=>exact h2 i a b' (by simpa using ha) (by simpa using hb')
theorem z932 {H:Type} {enc:TypeId × Value→H} {P:Program} {w:World} {base:Nat} {spare:Nat→Bool} {held:Bool} {t e:TypeId} {n:Nat} (hu:P.underlying t=some (.array n e)) (he:P.underlying e=some (.int .u8)) (hc:P.cellsOf e=1) {fuel:Nat} {cs:List Value} {L:List Int} {p:List MemPlace}
  (h:DataW.trod enc P w base spare held fuel t cs=some (.agg (L.map fun i=>.lit (.int .u8 i)),p)):∀ (i:Nat) (v:Int),L[i]?=some v→cs[i]?=some (.int .u8 v):=by
 cases fuel with
 | zero=>simp [DataW.trod] at h
 | succ fuel =>
  unfold DataW.trod at h
  rw [hu] at h
  simp only [hc,Nat.mul_one] at h
  split at h
  ·obtain⟨xs,hx,hxe⟩:=Option.map_eq_some_iff.1 h
   obtain⟨h1,h2⟩:=z695 _ _ _ hx
   simp only [Prod.mk.injEq,DataW.agg.injEq] at hxe
   intro i v hv
   have hLx:(xs.map (·.1))[i]?=some (.lit (.int .u8 v)):=by rw [hxe.1,List.getElem?_map,hv];rfl
   rw [List.getElem?_map,Option.map_eq_some_iff] at hLx
   obtain⟨y,hy,hy1⟩:=hLx
   have hil:i<n:=by
    have:=(List.getElem?_eq_some_iff.1 hy).1
    rw [h1,List.length_range] at this
    exact this
   have h3:=h2 i i y (by simp [hil]) hy
   obtain⟨m,e1,e2,_⟩:=DataW.trod_int he h3
   rw [e2] at hy1
   simp only [DataW.lit.injEq,Lit.int.injEq,true_and] at hy1
   subst hy1
   have:=congrArg (fun l=>l[0]?) e1
   simpa using this
  ·cases h
theorem z1266 {W:World} (h:laidMetH Tryd.prog tabLaid W):Hid Tryd.prog W (fun _=>False):=by
 rw [MakeChecks.laidMetH_plain _ _ _ (by kernel_rfl)] at h
 obtain⟨ps,⟨_,_,_,_,_,_,_,_,_,_,⟨g0,t0,cs0,zf0,p0,q0,hg0,ht0,hv0,hd0,_,_⟩,_⟩,_,_⟩:=h
 obtain rfl:=Option.some.inj (gTab.symm.trans hg0)
 obtain rfl:=Option.some.inj (tTab.symm.trans ht0)
 rw [z1044] at hd0
 have hcell:=z932 Tryd.underlying221 Tryd.underlying5 (by kernel_rfl) hd0
 have hvar:=fun i=>World.var?_cell hg0 hv0 i
 have hsz:Tryd.prog.globals.size=2:=by kernel_rfl
 intro g d hgd
 unfold hidOf at hgd
 rw [hsz] at hgd
 match g,hgd with
 | 0,hgd=>cases hgd
 | 1,hgd =>
  cases hgd
  refine .ptr (tabL.map (DV.int .u8)) 0 1 0 (fun j=>.int .u8 (tabL.getD j 0)) (fun j d hj=>⟨id,?_,rfl⟩) (fun j d hj=>?_)
  ·rw [List.getElem?_map,Option.map_eq_some_iff] at hj
   obtain⟨v,hv,rfl⟩:=hj
   rw [Nat.zero_add,hvar j,← Array.getElem?_toList,hcell j v hv,List.getD_eq_getElem?_getD,hv]
   rfl
  ·rw [List.getElem?_map,Option.map_eq_some_iff] at hj
   obtain⟨v,hv,rfl⟩:=hj
   rw [List.getD_eq_getElem?_getD,hv]
   exact .int ..
 | _ + 2,hgd=>cases hgd
def AllC:List (TypeId × (DV→Prop))→List DV→Prop
 | [],[]=>True
 | c::cs,x::xs=>c.2 x∧AllC cs xs
 | _,_=>False
section
variable {H:Type} {enc:TypeId × Value→H} {W:World}
theorem z904 {base:Nat}:∀ (L:List (TypeId × (DV→Prop))),(∀ c ∈ L,Rd c.1 c.2)→∀ (vs:List Value) (ds:List (DataW H)) (ps:List MemPlace),
  (∀ (j:Nat) t v,(L.map (·.1))[j]?=some t→vs[j]?=some v→Value.okWide Tryd.prog W .any base t v) →
  DataW.TrodAll enc Tryd.prog W 0 (fun _=>true) true (L.map (·.1)) vs ds ps→Rows.uptoBulkAll ds≤1048576 →
  vs.length=L.length∧ds.length=L.length∧∃ xs,AllC L xs∧xs.length=L.length∧∀ (i:Nat) x v,xs[i]?=some x→vs[i]?=some v→DRel W (fun _=>False) x v
 | [],_,vs,ds,ps,_,h,_=>by
  obtain⟨rfl,rfl,rfl⟩:=trodAll_nil h
  exact⟨rfl,rfl,[],trivial,rfl,fun i x v h=>by simp at h⟩
 | c::L,hc,vs,ds,ps,hval,h,hb=>by
  obtain⟨v,vs',d,ds',p,q,rfl,rfl,rfl,hd,hrest⟩:=trodAll_cons h
  simp only [Rows.uptoBulkAll] at hb
  obtain⟨x,hx,hr⟩:=(hc c (by simp)).read H enc W base v d p (hval 0 _ v (by simp) (by simp)) hd (by omega)
  obtain⟨h1,h2,xs,h3,h4,h5⟩:=z904 L (fun c h=>hc c (by simp [h])) vs' ds' q (fun j t v h1 h2=>hval (j + 1) t v (by simpa using h1) (by simpa using h2)) hrest (by omega)
  refine⟨by simp [h1],by simp [h2],x::xs,⟨hx,h3⟩,by simp [h4],fun i y w hy hw=>?_⟩
  cases i with
  | zero =>
   simp at hy hw
   subst hy
   subst hw
   exact hr
  | succ i=>exact h5 i y w (by simpa using hy) (by simpa using hw)
theorem z900 {W':World} {sp:Nat→Bool}:∀ (L:List (TypeId × (DV→Prop))),(∀ c ∈ L,Rd c.1 c.2)→∀ (vs:List Value) (ds:List (DataW H)) (ps:List MemPlace),
  DataW.TrodAll enc Tryd.prog W 0 (fun _=>true) true (L.map (·.1)) vs ds ps→(∀ y ∈ ps,y.block<W.heap.size)→Below W.heap.size W W'→(∀ y ∈ ps,sp y.block=true) →
  DataW.TrodAll enc Tryd.prog W' 0 sp true (L.map (·.1)) vs ds ps
 | [],_,vs,ds,ps,h,_,_,_=>by
  obtain⟨rfl,rfl,rfl⟩:=trodAll_nil h
  exact trodAll_mk0
 | c::L,hc,vs,ds,ps,h,hlt,hb,hsp=>by
  obtain⟨v,vs',d,ds',p,q,rfl,rfl,rfl,hd,hrest⟩:=trodAll_cons h
  have hrd:=hc c (by simp)
  exact⟨p,q,WideElems.Trod_stays (by kernel_rfl) hrd.rec' hrd.lt hd (fun y hy=>hb.same (hlt y (by simp [hy]))) (fun y hy=>hsp y (by simp [hy])),
   z900 L (fun c h=>hc c (by simp [h])) vs' ds' q hrest (fun y hy=>hlt y (by simp [hy])) hb (fun y hy=>hsp y (by simp [hy])),rfl⟩
end
theorem z1338 {f:FuncId} {fn:Func} (L:List (TypeId × (DV→Prop))) (hL:∀ c ∈ L,Rd c.1 c.2) (hf:∀ xs,AllC L xs→Fn Tryd.prog f xs (.bool true)) (hfn:fn.params=(L.map (·.1)).toArray) (hr:fn.resultTypes=#[4])
  (s:ChangeSpec) (hv:s.vars=[]) (hs:∀ (H:Type) (ds:List (DataW H)),ds.length=L.length→s.fn H ds={ results:=[.lit (.bool true)],args:=ds })
  {H:Type} {enc:TypeId × Value→H} {W:World} {args:Array Value} {ds gs:List (DataW H)} {before:List MemPlace}
  {base:Nat} (hval:∀ (j:Nat) t v,fn.params[j]?=some t→args[j]?=some v→Value.okWide Tryd.prog W .any base t v)
  (hW:DataW.Whole enc Tryd.prog fn.params.toList s.vars false W args.toList ds gs before) (hk:Rows.uptoSmall H (ds++gs)=true) (hX:laidMetH Tryd.prog tabLaid W) :
  Calls Tryd.prog f args W fun e W'=>∃ v,e=.returned v∧s.post enc Tryd.prog fn false true false false W args v W':=by
 have hW':=hW
 obtain⟨p,q,hA,hV,rfl,hfz,hnd⟩:=hW
 rw [hfn] at hA
 rw [hv] at hV
 obtain⟨rfl,rfl⟩:=trodVars_none hV
 have hb:=of_decide_eq_true hk
 simp only [List.append_nil] at hb
 obtain⟨l1,l2,xs,hxs,l3,hrel⟩:=z904 (base:=base) L hL _ _ _ (fun j t v h1 h2=>hval j t v (by rw [hfn];simpa using h1) (by simpa using h2)) hA hb
 have hc:=(hf xs hxs).2 W (fun _=>False) args (fun _ h=>h.elim) (z1266 hX) ⟨by rw [l3,← l1];simp,fun i x v h1 h2=>hrel i x v h1 (by simpa using h2)⟩
 refine hc.mono fun e W' h=>?_
 obtain⟨v,rfl,hvr,hbel⟩:=h
 cases hvr
 refine⟨_,rfl,?_⟩
 have hlt:∀ y ∈ p,y.block<W.heap.size:=fun y hy=>hW'.lt y (by simpa using hy)
 have hok:Value.okWide Tryd.prog W' .any 0 4 (.bool true):=okWide_bool_mk (t:=4) Tryd.underlying4 true
 have hsf:s.fn H (ds++[])={ results:=[.lit (.bool true)],args:=ds }:=by rw [List.append_nil];exact hs H ds l2
 refine z537 (pa:=p) (pv:=[]) hW' ?_ ?_ ?_ (by simp) hbel ?_
 ·intro b sp hd
  rw [hr,hsf]
  exact trodAll_mk1 (shut_bool Tryd.underlying4 _)
 ·intro sp hsp
  rw [hfn,hsf]
  exact z900 L hL _ _ _ hA hlt hbel (fun y hy=>hsp y (by simpa using hy))
 ·intro sp hsp
  rw [hv,hsf]
  rfl
 ·exact ok_one hr rfl hok
theorem z1324 {c d:TypeId × (DV→Prop)} {xs:List DV} (h:AllC [c,d] xs):∃ x y,xs=[x,y]∧c.2 x∧d.2 y:=by
 match xs,h with
 | [x,y],h=>exact⟨x,y,rfl,h.1,h.2.1⟩
end Go.Ab
namespace Go.Ab
open Go.RowKit Go.Proofs Go.Lib
set_option maxHeartbeats 4000000
set_option maxRecDepth 1000000
theorem z1264:(Tryd.prog.info? 44).map (fun i=>(i.zero,i.size,i.bytes))=some (some (.agg #[.int .i64 0,.int .i64 0,.bool false]),3,24):=by kernel_rfl
def zeroC:List Value:=[.int .i64 0,.int .i64 0,.bool false]
theorem z1104 (W:World) (ty:TypeId) (b o c:Nat) (hc:∀ t,t<3→(W.cell? ⟨b,o + t,none⟩).isSome=true) (hf:∀ t,t<3→W.frozen? ⟨b,o + t,none⟩=false) :
  (Builtin.clear_ #[29] ty #[.slice (some ⟨b,o,none⟩) 1 c]).run Tryd.prog W=.ok (.tuple #[]) (W.setCells b o zeroC):=by
 have hst:=run_storeCells_cells (P:=Tryd.prog) b o zeroC 0 W (by simpa [zeroC] using hc) (by simpa [zeroC] using hf) (by intro v hv;simp [zeroC] at hv;rcases hv with rfl | rfl | rfl <;> rfl)
 rw [Nat.add_zero] at hst
 have hz:(Builtin.zeroCells (Value.agg #[.int .i64 0,.int .i64 0,.bool false]).cells 1).toList=zeroC:=by simp [Builtin.zeroCells,Value.cells,zeroC];rfl
 simp [Builtin.clear_,run_underlying Tryd.underlying29,Tryd.zeroValue44,hz,hst]
theorem z482 (b:Nat):∀ (vs:List Value) (o:Nat) (w:World) (x:Addr),(w.cell? x).isSome=true→((w.setCells b o vs).cell? x).isSome=true
 | [],_,_,_,h=>h
 | v::r,o,w,x,h=>by
  refine z482 b r (o + 1) _ x ?_
  by_cases hx:x=⟨b,o,none⟩
  ·subst hx
   obtain⟨u,hu⟩:=Option.isSome_iff_exists.1 h
   unfold World.cell? World.setCell at *
   simp only [Array.getElem?_modify]
   cases hb:w.heap[b]? with
   | none=>rw [hb] at hu;simp at hu
   | some ob =>
    rw [hb] at hu
    cases ob <;> simp_all
  ·rw [World.cell?_setCell_other _ _ _ _ (fun e=>hx e.symm)]
   exact h
theorem z257 (b:Nat):∀ (vs:List Value) (o:Nat) (w:World) (cs:Array Value) (ty:TypeId) (x:Nat × Nat),w.heap[b]?=some (.cells cs ty x) →
  Wrote b w (w.setCells b o vs)∧∃ cs',(w.setCells b o vs).heap[b]?=some (.cells cs' ty x)∧cs'.size=cs.size
 | [],_,_,cs,_,_,h=>⟨⟨rfl,rfl,rfl,rfl,fun _ _=>rfl⟩,cs,h,rfl⟩
 | v::r,o,w,cs,ty,x,h=>by
  have h1:(w.setCell ⟨b,o,none⟩ v).heap[b]?=some (.cells (cs.setIfInBounds o v) ty x):=by
   unfold World.setCell
   simp [Array.getElem?_modify,h]
  obtain⟨g1,cs',g2,g3⟩:=z257 b r (o + 1) _ _ _ _ h1
  refine⟨⟨g1.os,g1.tape,g1.output,g1.size.trans (by simp [World.setCell]),fun k hk=>(g1.block k hk).trans ?_⟩,cs',g2,g3.trans (by simp)⟩
  unfold World.setCell
  simp only [Array.getElem?_modify]
  rw [if_neg (fun e=>hk e.symm)]
theorem z1102 (b cap L i:Nat) (f:Nat→Value) (w:World) (hi:i<L) (hL:L≤cap) (hm:cap≤9223372036854775807)
  (hc:∀ t,t<L * 3→w.cell? ⟨b,t,none⟩=some (f t)∧(f t).oneCell'=true) (hf:∀ t,t<L * 3→w.frozen? ⟨b,t,none⟩=false) :
  Calls Tryd.prog 76 #[.slice (some ⟨b,0,none⟩) L cap,.int .i64 i,.int .i64 ((i + 1:Nat):Int)] w fun e w'=>e=.returned (.slice (some ⟨b,0,none⟩) (L - 1) cap) ∧
   w'=(w.drew.setCells b (i * 3) ((List.range ((L - (i + 1)) * 3)).map fun t=>f ((i + 1) * 3 + t))).setCells b ((L - 1) * 3) zeroC:=by
 obtain⟨i0,hi0,hz0,hz1,hz2⟩:=info_parts z1264
 obtain⟨j,hj⟩:∃ j,j=i + 1:=⟨_,rfl⟩
 rw [← hj]
 obtain⟨news,hnews⟩:∃ news,news=(List.range ((L - j) * 3)).map fun t=>f (j * 3 + t):=⟨_,rfl⟩
 rw [← hnews]
 have hlen:news.length=(L - j) * 3:=by rw [hnews];simp
 have s1:Go.RowKit.Hid (news.length=(L - j) * 3):=hlen
 have hget:∀ t,t<(L - j) * 3→news[t]?=some (f (j * 3 + t)):=by
  intro t ht
  rw [hnews,List.getElem?_map,List.getElem?_range ht]
  rfl
 obtain⟨A,hA,hsrc⟩:∃ A:Addr,(if cap=j then some (⟨b,0,none⟩:Addr) else some ⟨b,j * 3,none⟩)=some A∧Go.RowKit.Hid (∀ t u,news[t]?=some u→w.drew.cell? (A.add t)=some u):=by
  by_cases h:cap=j
  ·refine⟨⟨b,0,none⟩,by simp [h],fun t u hu=>?_⟩
   have h0:news.length=0:=by rw [hlen];omega
   rw [List.length_eq_zero_iff.1 h0] at hu
   simp at hu
  ·refine⟨⟨b,j * 3,none⟩,by simp [h],fun t u hu=>?_⟩
   have ht:t<(L - j) * 3:=by
    have:=(List.getElem?_eq_some_iff.1 hu).1
    rwa [hlen] at this
   rw [hget t ht] at hu
   rw [Addr.add_lit]
   exact (hc (j * 3 + t) (by omega)).1.trans hu
 have s2:Go.RowKit.Hid (∀ u ∈ news,u.oneCell'=true):=by
  intro u hu
  rw [hnews] at hu
  obtain⟨x,hx,rfl⟩:=List.mem_map.1 hu
  have:=List.mem_range.1 hx
  exact (hc _ (by omega)).2
 have s3:Go.RowKit.Hid (∀ t,t<news.length→(w.drew.cell? ⟨b,0 + i * 3 + t,none⟩).isSome=true∧w.drew.frozen? ⟨b,0 + i * 3 + t,none⟩=false):=by
  intro t ht
  rw [hlen] at ht
  rw [Nat.zero_add]
  exact⟨by show (w.cell? _).isSome=true;rw [(hc (i * 3 + t) (by omega)).1];rfl,hf _ (by omega)⟩
 obtain⟨W1,hW1⟩:∃ W1,W1=w.drew.setCells b (i * 3) news:=⟨_,rfl⟩
 have hcl:∀ ty c,(Builtin.clear_ #[29] ty #[.slice (some ⟨b,(L - 1) * 3,none⟩) 1 c]).run Tryd.prog W1=.ok (.tuple #[]) (W1.setCells b ((L - 1) * 3) zeroC):=fun ty c=>by
  refine z1104 W1 ty b _ c (fun t ht=>?_) (fun t ht=>?_)
  ·rw [hW1]
   refine z482 b news _ _ _ ?_
   show (w.cell? _).isSome=true
   rw [(hc _ (by omega)).1]
   rfl
  ·rw [hW1,World.frozen?_setCells]
   exact hf _ (by omega)
 have hW:Go.RowKit.Hid (W1=w.drew.setCells b (0 + i * 3) news):=by rw [Nat.zero_add];exact hW1
 rw [← hW1]
 have hic:i≤cap:=by omega
 have hjc:j≤cap:=by omega
 have hij:i≤j:=by omega
 have hlt:i<j:=by omega
 have hjL:j≤L:=by omega
 have hlast:i + (L - j)=L - 1:=by omega
 have hne:((i:Int) == (j:Int))=false:=by simp;omega
 have hone:L - (L - 1)=1:=by omega
 have hcn:¬ cap=L - 1:=by omega
 have hb0:(0:Int)≤((L - 1:Nat):Int):=by omega
 have hb1:((L - 1:Nat):Int)≤(L:Int):=by omega
 have hb2:(L:Int)≤(cap:Int):=by omega
 clear hW1 hc hf hget hnews hlen hj
 go_enter Tryd.func76,Tryd.ntmps76
 go_wp2_with fail
 go_region_law (refine step_append_room rfl (.tmp 22) (.tmp 25) 29 rfl 44 i0 3 Tryd.underlying29 hi0 hz1 b 0 i cap (by simp [Act.eval,Act.put]) A (L - j) (cap - j) news (by simp [Act.eval,Act.put]) s1.out hsrc.out s2.out (by omega) s3.out ?_;rw [← hW.out])
 go_wp2
 go_ret
 exact⟨rfl,rfl⟩
theorem z1345 (rows:List (List DV)) (i:Nat) (hi:i<rows.length) :
  FnG Tryd.prog 76 [.arr 44 3 rows] [] [.own 0,.d (.i (i:Int)),.d (.i ((i + 1:Nat):Int))] (.own 0) [.arr 44 3 (rows.take i++rows.drop (i + 1))]:=by
 refine⟨Tryd.call76,fun base w own μ0 vs hb hh hm hid hl hv=>?_⟩
 have hr:([Blk.arr 44 3 rows].map some)[0]?=some (some (.arr 44 3 rows)):=rfl
 rcases hm.arr hr with ⟨_,h0⟩ | ⟨b,cap,cs,hμ,hheap,hlc,hcm,hcs,hz,hd⟩
 ·rw [h0] at hi;simp at hi
 obtain⟨L,hL⟩:∃ L,L=rows.length:=⟨_,rfl⟩
 rw [← hL] at hi hlc hμ
 match vs,hl with
 | ⟨[v0,v1,v2]⟩,_ =>
  have e0:=hv 0 _ v0 rfl rfl
  have e1:=hv 1 _ v1 rfl rfl
  have e2:=hv 2 _ v2 rfl rfl
  cases e0 with
  | ownNil h=>rw [hμ] at h;cases h
  | own h =>
   rw [hμ] at h
   cases h
   cases e1 with
   | d e1 =>
    cases e1
    cases e2 with
    | d e2 =>
     cases e2
     obtain⟨hbase,hbs,hbo⟩:=hm.base 0 b 3 L cap hμ
     have hcell:∀ t,t<L * 3→w.cell? ⟨b,t,none⟩=some (cs.getD t Go.undef)∧(cs.getD t Go.undef).oneCell'=true:=fun t ht=>by
      obtain⟨r,hr⟩:∃ r,rows[t / 3]?=some r:=⟨_,List.getElem?_eq_getElem (by omega)⟩
      have hr3:=hz r (List.mem_of_getElem? hr)
      obtain⟨d,hd'⟩:∃ d,r[t % 3]?=some d:=⟨_,List.getElem?_eq_getElem (by omega)⟩
      obtain⟨v,g1,g2,_⟩:=hd _ r _ d hr hd'
      rw [show t / 3 * 3 + t % 3=t by omega] at g1
      have hg:cs.getD t Go.undef=v:=by simp [Array.getD_eq_getD_getElem?,g1]
      rw [hg,z17 hheap,g1]
      exact⟨rfl,g2⟩
     have hfz:∀ t,t<L * 3→w.frozen? ⟨b,t,none⟩=false:=fun t _=>by
      simp [World.frozen?,hheap]
     refine (z1102 b cap L i (fun t=>cs.getD t Go.undef) w hi hlc hcm hcell hfz).mono ?_
     rintro en w' ⟨rfl,hw'⟩
     obtain⟨news,hnews⟩:∃ news,news=(List.range ((L - (i + 1)) * 3)).map fun t=>cs.getD ((i + 1) * 3 + t) Go.undef:=⟨_,rfl⟩
     rw [← hnews] at hw'
     have hnl:news.length=(L - (i + 1)) * 3:=by rw [hnews];simp
     have hdr:w.drew.heap[b]?=some (.cells cs 44 (0,0)):=hheap
     obtain⟨k1,cs1,k2,k3⟩:=z257 b news (i * 3) w.drew cs 44 (0,0) hdr
     obtain⟨k4,cs2,k5,k6⟩:=z257 b zeroC ((L - 1) * 3) _ cs1 44 (0,0) k2
     rw [← hw'] at k4 k5
     have hW:Wrote b w w':=⟨k4.os.trans k1.os,k4.tape.trans k1.tape,k4.output.trans k1.output,k4.size.trans k1.size,fun k hk=>(k4.block k hk).trans (k1.block k hk)⟩
     obtain⟨μ1,hμ1⟩:∃ μ1:Pl,μ1=fun n=>if n=0 then some (.at b 3 (L - 1) cap) else none:=⟨_,rfl⟩
     have hμ10:μ1 0=some (.at b 3 (L - 1) cap):=by rw [hμ1];rfl
     have hμn:∀ n L',μ1 n=some L'→n=0:=fun n L' h=>by
      rw [hμ1] at h
      dsimp only at h
      split at h
      ·assumption
      ·cases h
     have hμ0n:∀ n,(μ0 n).isSome→n=0:=fun n h=>by
      obtain⟨q,hq⟩:=hm.dom n h
      cases n with
      | zero=>rfl
      | succ n=>simp at hq
     have hown:∀ q,ownOf own μ1 q↔ownOf own μ0 q:=fun q=>by
      constructor
      ·rintro (h | ⟨n,z,l,c,h⟩)
       ·exact .inl h
       ·obtain rfl:=hμn n _ h
        rw [hμ10] at h
        cases h
        exact .inr ⟨0,_,_,_,hμ⟩
      ·rintro (h | ⟨n,z,l,c,h⟩)
       ·exact .inl h
       ·obtain rfl:=hμ0n n (by rw [h];rfl)
        rw [hμ] at h
        cases h
        exact .inr ⟨0,_,_,_,hμ10⟩
     have hbown:ownOf own μ0 b:=.inr ⟨0,_,_,_,hμ⟩
     have hgo:Goes w (ownOf own μ0) w' (ownOf own μ1):=fun q o u h1 h2=>⟨fun hc=>h1 ((hown q).1 hc),(hW.goes hbown q o u h1 h2).2⟩
     have hnew:∀ (k:Nat) r (j:Nat) d,(rows.take i++rows.drop (i + 1))[k]?=some r→r[j]?=some d→∃ v,cs2[k * 3 + j]?=some v∧v.oneCell'=true∧DRel w (ownOf own μ0) d v:=by
      intro k r j d h1 h2
      have hj:j<3:=by
       have hr3:r.length=3:=by
        have:=List.mem_of_getElem? h1
        rw [List.mem_append] at this
        rcases this with h | h
        ·exact hz r (List.mem_of_mem_take h)
        ·exact hz r (List.mem_of_mem_drop h)
       have:=(List.getElem?_eq_some_iff.1 h2).1
       omega
      have hkl:k<L - 1:=by
       have:=(List.getElem?_eq_some_iff.1 h1).1
       simp at this
       omega
      rw [← z17 k5,hw',World.cell?_setCells_out b zeroC _ _ _ (fun _ _=>.inl (by show k * 3 + j<_;omega))]
      by_cases hki:k<i
      ·rw [World.cell?_setCells_out b news _ _ _ (fun _ _=>.inl (by show k * 3 + j<_;omega))]
       rw [List.getElem?_append_left (by simp;omega),List.getElem?_take_of_lt hki] at h1
       obtain⟨v,g1,g2,g3⟩:=hd k r j d h1 h2
       refine⟨v,?_,g2,g3⟩
       rw [z17 hdr]
       exact g1
      ·rw [List.getElem?_append_right (by simp;omega)] at h1
       have hmin:min i rows.length=i:=by omega
       rw [List.length_take,hmin,List.getElem?_drop,show i + 1 + (k - i)=k + 1 by omega] at h1
       obtain⟨v,g1,g2,g3⟩:=hd (k + 1) r j d h1 h2
       refine⟨v,?_,g2,g3⟩
       have hin:=World.cell?_setCells_in b news (i * 3) w.drew (fun q hq=>by
        show (w.cell? _).isSome=true
        rw [(hcell _ (by omega)).1]
        rfl) (k * 3 + j - i * 3) (by omega)
       rw [show i * 3 + (k * 3 + j - i * 3)=k * 3 + j by omega] at hin
       rw [hin]
       have:news[k * 3 + j - i * 3]?=some v:=by
        rw [hnews,List.getElem?_map,List.getElem?_range (by omega)]
        show some (cs.getD _ _)=_
        rw [show (i + 1) * 3 + (k * 3 + j - i * 3)=(k + 1) * 3 + j by omega]
        simp [Array.getD_eq_getD_getElem?,g1]
       rw [← this,List.getElem?_eq_getElem]
     refine⟨_,μ1,rfl,.own hμ10,⟨fun n q hq=>?_,fun n hn=>?_,fun n k b1 z l c z' l' c' q1 q2=>?_,fun n b1 z l c hn=>?_⟩,⟨(hW.keep hheap hbase),fun q hq hno=>⟨hW.block q (fun e=>hno (e ▸ hbown)),fun hc=>hno ((hown q).1 hc)⟩⟩,fun n hn=>by cases hn⟩
     ·cases n with
      | succ n=>simp at hq
      | zero =>
       have e:Blk.arr 44 3 (rows.take i++rows.drop (i + 1))=q:=by simpa using hq
       subst e
       have hlen:(rows.take i++rows.drop (i + 1)).length=L - 1:=by simp;omega
       refine .inr ⟨b,cap,cs2,by rw [hlen];exact hμ10,k5,by omega,hcm,by omega,fun r h=>?_,fun k r j d h1 h2=>?_⟩
       ·rw [List.mem_append] at h
        rcases h with h | h
        ·exact hz r (List.mem_of_mem_take h)
        ·exact hz r (List.mem_of_mem_drop h)
       ·obtain⟨v,g1,g2,g3⟩:=hnew k r j d h1 h2
        exact⟨v,g1,g2,g3.goes hgo⟩
     ·obtain⟨L',h⟩:=Option.isSome_iff_exists.1 hn
      obtain rfl:=hμn n _ h
      exact⟨_,rfl⟩
     ·rw [hμn n _ q1,hμn k _ q2]
     ·obtain rfl:=hμn n _ hn
      rw [hμ10] at hn
      cases hn
      exact⟨hbase,by rw [hW.size];exact hbs,hbo⟩
end Go.Ab
/- Memory of the call's own that is handed over whole;drawn regions whose calls stand in an order. -/
namespace Go.Ab
open Go.RowKit
theorem CallR.own {P:Program} {st:St} {dst:Option Tmp} {g:FuncId} {xs:List AV} {m0:List Blk} {pins:List Nat} {args:List AV} {r:AV} {m1:List Blk} (ns news bads rd:List Nat) (hf:FnG P g m0 pins args r m1)
  (hnd:(ns++news).Nodup) (hl0:ns.length=m0.length) (hl1:(ns++news).length=m1.length) (hm:blksG st ns ns m0) (hnew:news.all st.fresh=true) (hla:xs.length=args.length)
  (ha:∀ (i:Nat) x y,xs[i]?=some x→args[i]?=some y→argG st ns rd x y) (hrd:rd.all (fun n=>!ns.contains n)=true) (hsh:shutG st rd) (hb:(List.range ns.length).all (fun i=>pins.contains i || bads.contains (ns.getD i 0))=true)
  (hfl:rd=[]∨(r.flatA=true∧m1.all Blk.flatB=true)) :
  CallR P st dst g xs (({ (st.keep bads) with m:=putM (ns++news) (m1.map (Blk.mapN fun i=>(ns++news)[i]?)) (st.keep bads).m }:St).put dst (r.mapN fun i=>(ns++news)[i]?)) :=
 CallR.gen m0 pins args r m1 ns news rd bads hf hnd hl0 hl1 (z359 hm).2 (fun n hn=>z19 (List.all_eq_true.1 hnew n hn)) hla ha (fun n hn=>by simpa using List.all_eq_true.1 hrd n hn) hsh
  (fun i n hi hn=>by
   have hil:=(List.getElem?_eq_some_iff.1 hi).1
   have:=List.all_eq_true.1 hb i (List.mem_range.2 hil)
   rw [Bool.or_eq_true] at this
   rcases this with h | h
   ·simpa using h
   ·rw [List.getD,hi] at h
    exact absurd (by simpa using h) hn) hfl
theorem z169 (st:St):shutG st []:=fun n hn=>by cases hn
def offM (m:Nat→Bool) (i:Nat):Nat→Bool:=fun j=>if j=i then false else m j
def depsM (m:Nat→Bool):List Edge→Prop
 | []=>True
 | e::es=>(Region.binds .any e=true→m e.on=false)∧depsM m es
theorem z558 {m:Nat→Bool}:∀ {es:List Edge},(∀ e ∈ es,Region.binds .any e=true→m e.on=false)→depsM m es
 | [],_=>trivial
 | e::es,h=>⟨h e (by simp),z558 fun e he=>h e (by simp [he])⟩
def stepsM (P:Program) (G:(Nat→Bool)→St):List Oper→Nat→Prop
 | [],_=>True
 | o::os,i=>(∀ m:Nat→Bool,m i=true→depsM m o.after.toList→dstOk o=true∧o.guard=none∧stepK P o (G m) (fun s=>s=G (offM m i)))∧stepsM P G os (i + 1)
def StepM (P:Program) (G:(Nat→Bool)→St) (o:Oper) (i:Nat):Prop:=∀ m:Nat→Bool,m i=true→depsM m o.after.toList→dstOk o=true∧o.guard=none∧stepK P o (G m) (fun s=>s=G (offM m i))
theorem z1273 {ops:Array Oper} (hb:backB ops=true) {i j:Nat} (h:Anc ops i j):i<j:=by
 induction h with
 | edge ho he hbi=>exact z138 hb ho he hbi
 | step _ _ h1 h2=>omega
structure LeftC (ops:Array Oper) (G:(Nat→Bool)→St) (rs:List Nat) (s s':St):Prop where
 now:s=G fun i=>rs.contains i
 fin:s'=G fun _=>false
 nodup:rs.Nodup
 ord:rs.Pairwise fun a b=>¬ Anc ops b a
 size:∀ i ∈ rs,i<ops.size
section
variable {P:Program} {rd:Option Nat} {n:Nat} {J:Env} {ops:Array Oper} {cs:List Code} {k:Option Nat} {st:St} {Q:Exit→Option Nat→St→Prop}
end
attribute [go_sem] offM
end Go.Ab
/- A fresh slice is a deep value too. -/
namespace Go.Ab
open Go.RowKit
theorem FnS.deep {P:Program} {f:FuncId} {args:List DV} {e z:Nat} {rows:List (List DV)} (h:FnS P f args e z rows):Fn P f args (.sl rows) :=
 ⟨h.1,fun w own vs hb hh hd=>(h.2 w own vs hb hh hd).mono fun en w' hq=>by
  obtain⟨v,μ,he,hv,hm,hbl⟩:=hq
  exact⟨v,he,z39 hm own (fun b hb=>.inl hb) (fun _=>True) (fun n b z l c _ hμ=>(hm.base n b z l c hμ).2.2) 1 (.own 0) v _ hv rfl (fun _ _=>trivial) (.inl fun _ _ _ _ _ _=>trivial),hbl⟩⟩
def closedM (m:Nat→Bool):List Oper→Nat→Prop
 | [],_=>True
 | o::os,i=>(m i=false→depsM m o.after.toList)∧closedM m os (i + 1)
theorem z481 {m:Nat→Bool}:∀ (os:List Oper) (i:Nat),(∀ r o,os[r]?=some o→m (i + r)=false→depsM m o.after.toList)→closedM m os i
 | [],_,_=>trivial
 | o::os,i,h=>⟨fun hm=>h 0 o rfl hm,z481 os (i + 1) fun r o ho hm=>h (r + 1) o (by simpa using ho) (by rw [show i + (r + 1)=i + 1 + r by omega];exact hm)⟩
def stepsC (P:Program) (all:List Oper) (G:(Nat→Bool)→St):List Oper→Nat→Prop
 | [],_=>True
 | o::os,i=>(∀ m:Nat→Bool,m i=true→depsM m o.after.toList→closedM m all 0→dstOk o=true∧o.guard=none∧stepK P o (G m) (fun s=>s=G (offM m i)))∧stepsC P all G os (i + 1)
def StepC (P:Program) (all:List Oper) (G:(Nat→Bool)→St) (o:Oper) (i:Nat):Prop:=∀ m:Nat→Bool,m i=true→depsM m o.after.toList→closedM m all 0→dstOk o=true∧o.guard=none∧stepK P o (G m) (fun s=>s=G (offM m i))
theorem z442 {P:Program} {all:List Oper} {G:(Nat→Bool)→St}:∀ (os:List Oper) (i r:Nat) (o:Oper),stepsC P all G os i→os[r]?=some o→StepC P all G o (i + r)
 | [],_,_,_,_,ho=>by simp at ho
 | p::os,i,r,o,h,ho=>by
  cases r with
  | zero =>
   have e:p=o:=by simpa using ho
   rw [← e]
   exact h.1
  | succ r =>
   have h2:=z442 os (i + 1) r o h.2 (by simpa using ho)
   have e:i + 1 + r=i + (r + 1):=by omega
   rw [e] at h2
   exact h2
structure LeftD (ops:Array Oper) (G:(Nat→Bool)→St) (rs:List Nat) (s s':St):Prop where
 left:LeftC ops G rs s s'
 done:∀ (j:Nat) (o:Oper),ops[j]?=some o→j ∉ rs→∀ e ∈ o.after,Region.binds .any e=true→e.on ∉ rs
section
variable {P:Program} {rd:Option Nat} {n:Nat} {J:Env} {ops:Array Oper} {cs:List Code} {k:Option Nat} {st:St} {Q:Exit→Option Nat→St→Prop}
end
end Go.Ab
