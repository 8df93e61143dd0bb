/- A walk engine over abstract states, and the contracts of the functions that the statement reaches: part 3. -/
import Derived.Test.YtldnaopmkgikkaaWb
import Derived.Test.YtldnaopmkgikkaaProg
import Derived.ChangeArms
import Derived.Test.YtldnaopmkgikkaaRows
import Derived.JoinedCond
import Derived.Carry
import Derived.RowKit
set_option linter.unusedVariables false
set_option linter.unusedSimpArgs false
set_option linter.unnecessarySimpa false
/- Drawn regions in which something is appended: what named the array before is forgotten. -/
namespace Go.Ab
open Go.RowKit
def AV.whole:AV→Bool
 | .undef=>false
 | .agg cs | .tup cs | .fn _ cs=>AV.wholes cs
 | _=>true
where AV.wholes:List AV→Bool
 | []=>true
 | x::xs=>x.whole && AV.wholes xs
def AV.lose (n:Nat) (x:AV):AV:=x.sub n fun _=>.undef
mutual
theorem lose_same (n:Nat):∀ (x:AV),n ∉ x.refs→x.sub n (fun _=>.undef)=x
 | .box k o,h=>by simp only [AV.refs,List.mem_singleton] at h;simp only [AV.sub];rw [if_neg (fun e=>h e.symm)]
 | .elem k i o,h=>by simp only [AV.refs,List.mem_singleton] at h;simp only [AV.sub];rw [if_neg (fun e=>h e.symm)]
 | .own k,h=>by simp only [AV.refs,List.mem_singleton] at h;simp only [AV.sub];rw [if_neg (fun e=>h e.symm)]
 | .view k o l,h=>by simp only [AV.refs,List.mem_singleton] at h;simp only [AV.sub];rw [if_neg (fun e=>h e.symm)]
 | .bsl k o l,h=>by simp only [AV.refs,List.mem_singleton] at h;simp only [AV.sub];rw [if_neg (fun e=>h e.symm)]
 | .mp k,h=>by simp only [AV.refs,List.mem_singleton] at h;simp only [AV.sub];rw [if_neg (fun e=>h e.symm)]
 | .vh k l,h=>by simp only [AV.refs,List.mem_singleton] at h;simp only [AV.sub];rw [if_neg (fun e=>h e.symm)]
 | .vc k l,h=>by simp only [AV.refs,List.mem_singleton] at h;simp only [AV.sub];rw [if_neg (fun e=>h e.symm)]
 | .agg cs,h=>by simp only [AV.sub];rw [z82 n cs (by simpa [AV.refs] using h)]
 | .tup cs,h=>by simp only [AV.sub];rw [z82 n cs (by simpa [AV.refs] using h)]
 | .fn f cs,h=>by simp only [AV.sub];rw [z82 n cs (by simpa [AV.refs] using h)]
 | .undef,_=>rfl
 | .void,_=>rfl
 | .d _,_=>rfl
 | .nil,_=>rfl
 | .dfull _,_=>rfl
theorem z82 (n:Nat):∀ (l:List AV),n ∉ AV.refs.AV.refss l→AV.sub.AV.subs n (fun _=>.undef) l=l
 | [],_=>rfl
 | x::xs,h=>by
  simp only [AV.refs.AV.refss,List.mem_append,not_or] at h
  simp only [AV.sub.AV.subs]
  rw [lose_same n x h.1,z82 n xs h.2]
end
mutual
theorem z696 (n:Nat):∀ (x:AV),(x.sub n (fun _=>.undef)).whole=true→n ∉ x.refs
 | .box k o,h=>by
  simp only [AV.sub] at h
  split at h
  ·simp [AV.whole] at h
  ·rename_i hk;simp only [AV.refs,List.mem_singleton];exact fun e=>hk e.symm
 | .elem k i o,h=>by
  simp only [AV.sub] at h
  split at h
  ·simp [AV.whole] at h
  ·rename_i hk;simp only [AV.refs,List.mem_singleton];exact fun e=>hk e.symm
 | .own k,h=>by
  simp only [AV.sub] at h
  split at h
  ·simp [AV.whole] at h
  ·rename_i hk;simp only [AV.refs,List.mem_singleton];exact fun e=>hk e.symm
 | .view k o l,h=>by
  simp only [AV.sub] at h
  split at h
  ·simp [AV.whole] at h
  ·rename_i hk;simp only [AV.refs,List.mem_singleton];exact fun e=>hk e.symm
 | .bsl k o l,h=>by
  simp only [AV.sub] at h
  split at h
  ·simp [AV.whole] at h
  ·rename_i hk;simp only [AV.refs,List.mem_singleton];exact fun e=>hk e.symm
 | .mp k,h=>by
  simp only [AV.sub] at h
  split at h
  ·simp [AV.whole] at h
  ·rename_i hk;simp only [AV.refs,List.mem_singleton];exact fun e=>hk e.symm
 | .vh k l,h=>by
  simp only [AV.sub] at h
  split at h
  ·simp [AV.whole] at h
  ·rename_i hk;simp only [AV.refs,List.mem_singleton];exact fun e=>hk e.symm
 | .vc k l,h=>by
  simp only [AV.sub] at h
  split at h
  ·simp [AV.whole] at h
  ·rename_i hk;simp only [AV.refs,List.mem_singleton];exact fun e=>hk e.symm
 | .dfull _,_=>by simp [AV.refs]
 | .agg cs,h=>by simp only [AV.refs];exact z102 n cs (by simpa [AV.sub,AV.whole] using h)
 | .tup cs,h=>by simp only [AV.refs];exact z102 n cs (by simpa [AV.sub,AV.whole] using h)
 | .fn f cs,h=>by simp only [AV.refs];exact z102 n cs (by simpa [AV.sub,AV.whole] using h)
 | .undef,_=>by simp [AV.refs]
 | .void,_=>by simp [AV.refs]
 | .d _,_=>by simp [AV.refs]
 | .nil,_=>by simp [AV.refs]
theorem z102 (n:Nat):∀ (l:List AV),AV.whole.AV.wholes (AV.sub.AV.subs n (fun _=>.undef) l)=true→n ∉ AV.refs.AV.refss l
 | [],_=>by simp [AV.refs.AV.refss]
 | x::xs,h=>by
  simp only [AV.sub.AV.subs,AV.whole.AV.wholes,Bool.and_eq_true] at h
  simp only [AV.refs.AV.refss,List.mem_append,not_or]
  exact ⟨z696 n x h.1,z102 n xs h.2⟩
end
mutual
theorem z351 (n:Nat) (f:AV→AV):∀ (x:AV),n ∉ x.refs→x.sub n f=x
 | .box k o,h=>by simp only [AV.refs,List.mem_singleton] at h;simp only [AV.sub];rw [if_neg (fun e=>h e.symm)]
 | .elem k i o,h=>by simp only [AV.refs,List.mem_singleton] at h;simp only [AV.sub];rw [if_neg (fun e=>h e.symm)]
 | .own k,h=>by simp only [AV.refs,List.mem_singleton] at h;simp only [AV.sub];rw [if_neg (fun e=>h e.symm)]
 | .view k o l,h=>by simp only [AV.refs,List.mem_singleton] at h;simp only [AV.sub];rw [if_neg (fun e=>h e.symm)]
 | .bsl k o l,h=>by simp only [AV.refs,List.mem_singleton] at h;simp only [AV.sub];rw [if_neg (fun e=>h e.symm)]
 | .mp k,h=>by simp only [AV.refs,List.mem_singleton] at h;simp only [AV.sub];rw [if_neg (fun e=>h e.symm)]
 | .vh k l,h=>by simp only [AV.refs,List.mem_singleton] at h;simp only [AV.sub];rw [if_neg (fun e=>h e.symm)]
 | .vc k l,h=>by simp only [AV.refs,List.mem_singleton] at h;simp only [AV.sub];rw [if_neg (fun e=>h e.symm)]
 | .agg cs,h=>by simp only [AV.sub];rw [z72 n f cs (by simpa [AV.refs] using h)]
 | .tup cs,h=>by simp only [AV.sub];rw [z72 n f cs (by simpa [AV.refs] using h)]
 | .fn g cs,h=>by simp only [AV.sub];rw [z72 n f cs (by simpa [AV.refs] using h)]
 | .undef,_=>rfl
 | .void,_=>rfl
 | .d _,_=>rfl
 | .nil,_=>rfl
 | .dfull _,_=>rfl
theorem z72 (n:Nat) (f:AV→AV):∀ (l:List AV),n ∉ AV.refs.AV.refss l→AV.sub.AV.subs n f l=l
 | [],_=>rfl
 | x::xs,h=>by
  simp only [AV.refs.AV.refss,List.mem_append,not_or] at h
  simp only [AV.sub.AV.subs]
  rw [z351 n f x h.1,z72 n f xs h.2]
end
mutual
theorem z451 (n:Nat):∀ (x:AV),n ∉ (x.sub n (fun _=>.undef)).refs
 | .box k o=>by simp only [AV.sub];split <;> simp_all [AV.refs,eq_comm]
 | .elem k i o=>by simp only [AV.sub];split <;> simp_all [AV.refs,eq_comm]
 | .own k=>by simp only [AV.sub];split <;> simp_all [AV.refs,eq_comm]
 | .view k o l=>by simp only [AV.sub];split <;> simp_all [AV.refs,eq_comm]
 | .bsl k o l=>by simp only [AV.sub];split <;> simp_all [AV.refs,eq_comm]
 | .mp k=>by simp only [AV.sub];split <;> simp_all [AV.refs,eq_comm]
 | .vh k l=>by simp only [AV.sub];split <;> simp_all [AV.refs,eq_comm]
 | .vc k l=>by simp only [AV.sub];split <;> simp_all [AV.refs,eq_comm]
 | .dfull _=>by simp [AV.sub,AV.refs]
 | .agg cs=>by simp only [AV.sub,AV.refs];exact z83 n cs
 | .tup cs=>by simp only [AV.sub,AV.refs];exact z83 n cs
 | .fn g cs=>by simp only [AV.sub,AV.refs];exact z83 n cs
 | .undef=>by simp [AV.sub,AV.refs]
 | .void=>by simp [AV.sub,AV.refs]
 | .d _=>by simp [AV.sub,AV.refs]
 | .nil=>by simp [AV.sub,AV.refs]
theorem z83 (n:Nat):∀ (l:List AV),n ∉ AV.refs.AV.refss (AV.sub.AV.subs n (fun _=>.undef) l)
 | []=>by simp [AV.sub.AV.subs,AV.refs.AV.refss]
 | x::xs=>by
  simp only [AV.sub.AV.subs,AV.refs.AV.refss,List.mem_append,not_or]
  exact ⟨z451 n x,z83 n xs⟩
end
theorem StRel.rename0 {P:Program} {base out:Own} {st:St} {μ:Pl} {tmps:Array Value} {w:World} (h:StRel P base out st μ tmps w) {n:Nat} (hn:μ n=none) (hl:n<st.m.length) (e z:Nat) :
  ∃ μ',StRel P base out { t:=st.t,m:=st.m.set n (some (.arr e z [])) } μ' tmps w∧∀ b,ownOf out μ' b→ownOf out μ b:=by
 have hown:∀ b,ownOf out (μ.upd n (some .none0)) b→ownOf out μ b:=by
  rintro b (hb | ⟨k,z,l,c,hb⟩)
  ·exact .inl hb
  ·by_cases hk:k=n
   ·subst hk;rw [Pl.upd_same] at hb;cases hb
   ·rw [Pl.upd_ne μ _ hk] at hb;exact .inr ⟨k,z,l,c,hb⟩
 have hg:Goes w (ownOf out μ) w (ownOf out (μ.upd n (some .none0))):=fun b o v h1 h2=>⟨fun hc=>h1 (hown b hc),h2⟩
 have hμ:∀ k,(μ k).isSome→μ.upd n (some .none0) k=μ k:=fun k hk=>Pl.upd_ne μ _ (fun e=>by subst e;rw [hn] at hk;cases hk)
 refine ⟨μ.upd n (some .none0),⟨h.size,fun i x v h1 h2=>(h.tmp i x v h1 h2).goes hg (fun n _ hs=>hμ n hs),⟨fun k b hk=>?_,fun k hk=>?_,fun k q b z l c z' l' c' h1 h2=>?_,fun k b z l c hb=>?_⟩,h.hid.less hown,h.out,h.le⟩,hown⟩
 ·rw [List.getElem?_set] at hk
  by_cases hkn:n=k
  ·subst hkn
   rw [if_pos rfl,if_pos hl] at hk
   cases hk
   exact .inl ⟨Pl.upd_same μ n _,rfl⟩
  ·rw [if_neg hkn] at hk
   exact (h.mem.blk k b hk).goes hg (Pl.upd_ne μ _ (Ne.symm hkn)) hμ (fun _ _ _ _ _=>rfl)
 ·rw [List.getElem?_set]
  by_cases hkn:n=k
  ·subst hkn;exact ⟨.arr e z [],by rw [if_pos rfl,if_pos hl]⟩
  ·rw [if_neg hkn]
   rw [Pl.upd_ne μ _ (Ne.symm hkn)] at hk
   exact h.mem.dom k hk
 ·by_cases hk:k=n
  ·subst hk;rw [Pl.upd_same] at h1;cases h1
  ·by_cases hq:q=n
   ·subst hq;rw [Pl.upd_same] at h2;cases h2
   ·rw [Pl.upd_ne μ _ hk] at h1
    rw [Pl.upd_ne μ _ hq] at h2
    exact h.mem.inj k q b z l c z' l' c' h1 h2
 ·by_cases hk:k=n
  ·subst hk;rw [Pl.upd_same] at hb;cases hb
  ·rw [Pl.upd_ne μ _ hk] at hb
   exact h.mem.base k b z l c hb
def killT:Option Nat→List AV→List AV
 | none,t=>t
 | some n,t=>t.map (AV.sub n fun _=>.undef)
def killM:Option Nat→List (Option Blk)→List (Option Blk)
 | none,m=>m
 | some n,m=>subMem n (fun _=>.undef) m
def St.applyA (st:St) (dst:Option Tmp) (e:Eff) (k:Option Nat):St:=({ t:=killT k st.t,m:=killM k st.m }:St).apply dst e
def appOf (P:Program) (st:St) (dst:Option Tmp) (t t':TypeId) (s x:AV):Option (Eff × Option Nat):=if t'=t then match dst,tslice P t with
 | some d,some e=>match tsz P e,tbytes P e,(tzero P e).map (·.cells.size),elemsOf st x with
  | some z,some by_,some zl,some xs=>if zl=z∧0<z∧0<by_∧by_≤2 ^ 7∧headIs z xs then (match s with
    | .nil=>match st.fresh d with
     | true=>if xs.length≤2 ^ 39 then some (⟨.own d,some (d,.arr e z xs)⟩,none) else none
     | _=>none
    | .own n=>match st.m[n]? with
     | some (some (.arr e' z' rows))=>if e'=e∧z'=z∧rows.length + xs.length≤2 ^ 39 then some (⟨.own n,some (n,.arr e z (rows++xs))⟩,some n) else none
     | _=>none
    | .vc n len=>match st.m[n]? with
     | some (some (.arrP e' z' rows))=>if e'=e∧z'=z∧rows.length=len∧xs.length=1 then some (⟨.vh n (len + 1),some (n,.arrP e z (rows++xs))⟩,none) else none
     | _=>none
    | .dfull rows=>match st.fresh d with
     | true=>if rows.length + xs.length≤2 ^ 39∧0<rows.length∧0<xs.length∧headIs z rows then some (⟨.own d,some (d,.arr e z (rows++xs))⟩,none) else none
     | _=>none
    | _=>none) else none
  | _,_,_,_=>none
 | _,_=>none else none
def refsRows:List (List AV)→List Nat
 | []=>[]
 | r::l=>AV.refs.AV.refss r++refsRows l
def Blk.names:Blk→List Nat
 | .box row=>AV.refs.AV.refss row
 | .arrA _ _ rows=>refsRows rows
 | _=>[]
def boxTab:List (Option Blk)→Nat→List (Nat × List Nat)
 | [],_=>[]
 | some (.box row)::l,i=>(i,AV.refs.AV.refss row)::boxTab l (i + 1)
 | none::l,i=>boxTab l (i + 1)
 | some (.arr ..)::l,i=>boxTab l (i + 1)
 | some (.mp ..)::l,i=>boxTab l (i + 1)
 | some (.arrP ..)::l,i=>boxTab l (i + 1)
 | some (.arrA _ _ rows)::l,i=>(i,refsRows rows)::boxTab l (i + 1)
inductive EffA (P:Program) (o:Oper) (st:St):Eff→Option Nat→Prop where
 | old (e:Eff) (h:EffR P o st e):EffA P o st e none
 | app (t t':TypeId) (s x:Operand) (e:Eff) (k:Option Nat) (ho:o.op=.call { callee:=.builtin .append,args:=#[s,x],argTypes:=#[t,t'] })
   (h:appOf P st o.dst t t' (st.ev s) (st.ev x)=some (e,k)):EffA P o st e k
 | appR (t t':TypeId) (s x:Operand) (d n:Nat) (el z:Nat) (rows:List (List DV)) (hd:o.dst=some d) (hl:n<st.m.length) (hdl:d<st.t.length) (ho:o.op=.call { callee:=.builtin .append,args:=#[s,x],argTypes:=#[t,t'] })
   (h:appOf P st o.dst t t' (st.ev s) (st.ev x)=some (⟨.own n,some (n,.arr el z rows)⟩,some n)):EffA P o st ⟨.d (.sl rows),some (n,.arr el z [])⟩ (some n)
 | litD (d:Nat) (e z:Nat) (rows:List (List DV)) (t:TypeId) (len:Nat) (parts:Array (Nat × Operand)) (ho:o.op=.buildSlice t len parts) (hd:o.dst=some d) (hf:st.fresh d=true) (hdl:d<st.t.length)
   (h:opBuildSlice P st t len (parts.toList.map fun p=>(p.1,st.ev p.2))=some (.arr e z rows)) (hr:AV.refsAll (parts.toList.map fun p=>st.ev p.2)=[]):EffA P o st ⟨.d (.sl rows),none⟩ none
mutual
theorem z822 (n:Nat):∀ (x:AV),∀ k ∈ (x.sub n (fun _=>.undef)).refs,k ∈ x.refs
 | .box k o,q,h=>by simp only [AV.sub] at h;split at h <;> simp_all [AV.refs]
 | .elem k i o,q,h=>by simp only [AV.sub] at h;split at h <;> simp_all [AV.refs]
 | .own k,q,h=>by simp only [AV.sub] at h;split at h <;> simp_all [AV.refs]
 | .view k o l,q,h=>by simp only [AV.sub] at h;split at h <;> simp_all [AV.refs]
 | .bsl k o l,q,h=>by simp only [AV.sub] at h;split at h <;> simp_all [AV.refs]
 | .mp k,q,h=>by simp only [AV.sub] at h;split at h <;> simp_all [AV.refs]
 | .vh k l,q,h=>by simp only [AV.sub] at h;split at h <;> simp_all [AV.refs]
 | .vc k l,q,h=>by simp only [AV.sub] at h;split at h <;> simp_all [AV.refs]
 | .agg cs,q,h=>by simp only [AV.sub,AV.refs] at h ⊢;exact z97 n cs q h
 | .tup cs,q,h=>by simp only [AV.sub,AV.refs] at h ⊢;exact z97 n cs q h
 | .fn f cs,q,h=>by simp only [AV.sub,AV.refs] at h ⊢;exact z97 n cs q h
 | .undef,_,h=>h
 | .void,_,h=>h
 | .d _,_,h=>h
 | .nil,_,h=>h
 | .dfull _,_,h=>h
theorem z97 (n:Nat):∀ (l:List AV),∀ k ∈ AV.refs.AV.refss (AV.sub.AV.subs n (fun _=>.undef) l),k ∈ AV.refs.AV.refss l
 | [],_,h=>h
 | x::xs,q,h=>by
  simp only [AV.sub.AV.subs,AV.refs.AV.refss,List.mem_append] at h ⊢
  rcases h with h | h
  ·exact .inl (z822 n x q h)
  ·exact .inr (z97 n xs q h)
end
theorem z74 {rows:List (List AV)} {n:Nat}:n ∈ refsRows rows↔∃ r ∈ rows,n ∈ AV.refs.AV.refss r:=by
 induction rows with
 | nil=>simp [refsRows]
 | cons r l ih=>simp [refsRows,ih]
theorem Blk.lose_same {n:Nat} {b:Blk} (h:n ∉ b.names):b.sub n (fun _=>.undef)=b:=by
 cases b with
 | box row=>simp only [Blk.sub];rw [← AV.subs_eq,z82 n row h]
 | arr=>rfl
 | mp=>rfl
 | arrP=>rfl
 | arrA e z rows =>
  simp only [Blk.sub]
  congr 1
  exact (List.map_congr_left fun r hr=>by rw [← AV.subs_eq,z82 n r (fun hc=>h (z74.2 ⟨r,hr,hc⟩))];rfl).trans (List.map_id rows)
theorem Blk.sub_names {n k:Nat} {b:Blk} (h:k ∈ (b.sub n (fun _=>.undef)).names):k ∈ b.names:=by
 cases b with
 | box row=>simp only [Blk.sub,Blk.names] at h ⊢;rw [← AV.subs_eq] at h;exact z97 n row k h
 | arr=>cases h
 | mp=>cases h
 | arrP=>cases h
 | arrA e z rows =>
  simp only [Blk.sub,Blk.names] at h ⊢
  obtain ⟨r,hr,hk⟩:=z74.1 h
  obtain ⟨r0,hr0,rfl⟩:=List.mem_map.1 hr
  rw [← AV.subs_eq] at hk
  exact z74.2 ⟨r0,hr0,z97 n r0 k hk⟩
section
variable {P:Program} {ops:Array Oper} {o:Oper} {s st:St}
theorem z316 {t t':TypeId} {s x:Operand} {e:Eff} {k:Option Nat} (ho:o.op=.call { callee:=.builtin .append,args:=#[s,x],argTypes:=#[t,t'] })
  (h:appOf P st o.dst t t' (st.ev s) (st.ev x)=some (e,k)):stepOp P o st=some (st.applyA o.dst e k):=by
 unfold stepOp
 rw [ho]
 simp only [List.map_cons,List.map_nil]
 unfold appOf at h
 unfold opAppend
 split at h
 ·rename_i htt
  rw [if_pos htt]
  split at h
  ·rename_i d e' hd he
   rw [hd,he]
   simp only
   split at h
   ·rename_i z by_ zl xs h1 h2 h3 h4
    rw [h1,h2,h3,h4]
    simp only
    split at h
    ·rename_i hc
     rw [if_pos hc]
     split at h
     ·rename_i hs
      rw [hs]
      simp only
      split at h
      ·rename_i hfr
       rw [hfr]
       simp only
       split at h
       ·rename_i hl
        rw [if_pos hl]
        cases h
        rfl
       ·cases h
      ·cases h
     ·rename_i n hs
      rw [hs]
      simp only
      split at h
      ·rename_i e2 z2 rows hm
       rw [hm]
       simp only
       split at h
       ·rename_i hl
        rw [if_pos hl]
        cases h
        rfl
       ·cases h
      ·cases h
     ·rename_i n len hs
      rw [hs]
      simp only
      split at h
      ·rename_i e2 z2 rows hm
       rw [hm]
       simp only
       split at h
       ·rename_i hl
        rw [if_pos hl]
        cases h
        rfl
       ·cases h
      ·cases h
     ·rename_i rows hs
      rw [hs]
      simp only
      split at h
      ·rename_i hfr
       rw [hfr]
       simp only
       split at h
       ·rename_i hl
        rw [if_pos hl]
        cases h
        rfl
       ·cases h
      ·cases h
     ·cases h
    ·cases h
   ·cases h
  ·cases h
 ·cases h
theorem EffA.step {e:Eff} {k:Option Nat} (h:EffA P o st e k):StepR P o st (st.applyA o.dst e k):=by
 cases h with
 | old e h=>exact h.step
 | app t t' s x _ _ ho h=>exact .inr (.inl ⟨by simp [isCall,ho],z316 ho h⟩)
 | appR t t' s x d n el z rows hd hl hdl ho h =>
  refine .inr (.inr ⟨by simp [isCall,ho],_,z316 ho h,fun base out μ tmps w μ1 tmps1 w1 _ h1=>?_⟩)
  have hn1:(st.applyA o.dst ⟨.own n,some (n,.arr el z rows)⟩ (some n)).m[n]?=some (some (.arr el z rows)):=by
   have:(killM (some n) st.m).length=st.m.length:=by
    have:∀ m:List (Option Blk),(subMem n (fun _=>AV.undef) m).length=m.length:=by
     intro m
     induction m with
     | nil=>rfl
     | cons x xs ih=>cases x <;> simp [subMem,ih]
    exact this _
   simp only [St.applyA,St.apply]
   rw [List.getElem?_set_self (by rw [this];exact hl)]
  obtain ⟨μ2,h2,_,hless,hgone⟩:=h1.release n
  obtain ⟨μ3,h3,hless3⟩:=h2.rename0 (hgone ⟨_,hn1⟩) (by
   have:=(List.getElem?_eq_some_iff.1 hn1).1
   unfold St.release
   rw [hn1]
   have e:∀ (f:AV→AV) (m:List (Option Blk)),(subMem n f m).length=m.length:=by
    intro f m
    induction m with
    | nil=>rfl
    | cons x xs ih=>cases x <;> simp [subMem,ih]
   simp only [e,List.length_set]
   exact this) el z
  refine ⟨μ3,?_,fun b hb=>hless b (hless3 b hb)⟩
  have key:({ t:=((st.applyA o.dst ⟨.own n,some (n,.arr el z rows)⟩ (some n)).release n).t,m:=((st.applyA o.dst ⟨.own n,some (n,.arr el z rows)⟩ (some n)).release n).m.set n (some (.arr el z [])) }:St)=st.applyA o.dst ⟨.d (.sl rows),some (n,.arr el z [])⟩ (some n):=by
   have e1:(st.applyA o.dst ⟨.own n,some (n,.arr el z rows)⟩ (some n)).release n={ t:=(st.applyA o.dst ⟨.own n,some (n,.arr el z rows)⟩ (some n)).t.map (AV.sub n (snapLeaf (.arr el z rows))),m:=subMem n (snapLeaf (.arr el z rows)) ((st.applyA o.dst ⟨.own n,some (n,.arr el z rows)⟩ (some n)).m.set n none) }:=by
    unfold St.release
    rw [hn1]
   rw [e1]
   have ht:(st.applyA o.dst ⟨.own n,some (n,.arr el z rows)⟩ (some n)).t.map (AV.sub n (snapLeaf (.arr el z rows)))=(st.applyA o.dst ⟨.d (.sl rows),some (n,.arr el z [])⟩ (some n)).t:=by
    rw [hd]
    simp only [St.applyA,St.apply,St.put,killT,List.map_set,List.map_map]
    have:(AV.sub n (snapLeaf (.arr el z rows)) ∘ AV.sub n fun _=>AV.undef)=AV.sub n fun _=>AV.undef:=funext fun x=>z351 n _ _ (z451 n x)
    rw [this]
    simp [AV.sub,snapLeaf]
   have hm:(subMem n (snapLeaf (.arr el z rows)) ((st.applyA o.dst ⟨.own n,some (n,.arr el z rows)⟩ (some n)).m.set n none)).set n (some (.arr el z []))=(st.applyA o.dst ⟨.d (.sl rows),some (n,.arr el z [])⟩ (some n)).m:=by
    simp only [St.applyA,St.apply,killM,List.set_set]
    apply List.ext_getElem?
    intro i
    have hlen:∀ (f:AV→AV) (m:List (Option Blk)),(subMem n f m).length=m.length:=by
     intro f m
     induction m with
     | nil=>rfl
     | cons x xs ih=>cases x <;> simp [subMem,ih]
    rw [List.getElem?_set,List.getElem?_set,hlen,List.length_set]
    by_cases hi:n=i
    ·rw [if_pos hi,if_pos hi]
    ·rw [if_neg hi,if_neg hi,z35,List.getElem?_set_ne hi,z35]
     cases st.m[i]? with
     | none=>rfl
     | some ob =>
      cases ob with
      | none=>rfl
      | some b =>
       cases b with
       | box row =>
        simp only [Option.map_some,Blk.sub]
        rw [← AV.subs_eq,← AV.subs_eq,z72 n _ _ (z83 n row)]
       | arr=>rfl
       | mp=>rfl
       | arrP=>rfl
       | arrA e' z' rows' =>
        simp only [Option.map_some,Blk.sub,Option.some.injEq,Blk.arrA.injEq,true_and,List.map_map]
        exact List.map_congr_left fun r hr=>by simp only [Function.comp_def];rw [← AV.subs_eq,← AV.subs_eq,z72 n _ _ (z83 n r)]
   rw [ht,hm]
  rw [← key]
  exact h3
 | litD d e z rows t len parts ho hd hf hdl h hr =>
  have hst:stepOp P o st=some (st.addBlk d (.own d) (.arr e z rows)):=by
   have:=(EffR.lit (P:=P) d e z rows t len parts ho hd hf h hr)
   have hps:(parts.toList.map fun p=>(p.1,st.ev p.2)).map (·.2)=parts.toList.map fun p=>st.ev p.2:=by simp [Function.comp_def]
   unfold stepOp
   rw [ho]
   simp only [h,hd,Option.getD_some,hf,hps,hr]
   rfl
  refine .inr (.inr ⟨by simp [isCall,ho],_,hst,fun base out μ tmps w μ1 tmps1 w1 h0 h1=>?_⟩)
  have hfr:=z26 hf
  have hl:d<st.m.length:=(List.getElem?_eq_some_iff.1 hfr).1
  have hn1:(st.addBlk d (.own d) (.arr e z rows)).m[d]?=some (some (.arr e z rows)):=by simp only [St.addBlk];rw [List.getElem?_set_self hl]
  obtain ⟨μ2,h2,_,hless,hgone⟩:=h1.release d
  refine ⟨μ2,?_,hless⟩
  have hnp:=z87 h0.mem hfr
  have norefs:∀ (i:Nat) x,st.t[i]?=some x→d ∉ x.refs:=fun i x hx hc=>by
   have hi:i<tmps.size:=by rw [h0.size];exact (List.getElem?_eq_some_iff.1 hx).1
   have:=(h0.tmp i x tmps[i] hx (by simp [hi])).placed d hc
   rw [hnp] at this;cases this
  have norefm:∀ (i:Nat) b,st.m[i]?=some (some b)→d ∉ b.names:=fun i b hrow hc=>by
   have many:∀ (l:List AV),d ∈ AV.refs.AV.refss l→∃ (j:Nat) (x:AV),l[j]?=some x∧d ∈ x.refs:=by
    intro l
    induction l with
    | nil=>intro h;simp [AV.refs.AV.refss] at h
    | cons y ys ih =>
     intro h
     simp only [AV.refs.AV.refss,List.mem_append] at h
     rcases h with h | h
     ·exact ⟨0,y,rfl,h⟩
     ·obtain ⟨j,x,h1,h2⟩:=ih h;exact ⟨j + 1,x,by simpa using h1,h2⟩
   cases b with
   | arr=>cases hc
   | mp=>cases hc
   | arrP=>cases hc
   | box row =>
    obtain ⟨b,cs,ty,q1,q2,q3,q4⟩:=h0.mem.box hrow
    obtain ⟨j,x,hx,hdx⟩:=many row hc
    have hj:j<cs.size:=Nat.lt_of_lt_of_le (List.getElem?_eq_some_iff.1 hx).1 q3
    have:=(q4 j x cs[j] hx (by simp [hj])).2.placed d hdx
    rw [hnp] at this;cases this
   | arrA e' z' rows' =>
    obtain ⟨r,hr,hk⟩:=z74.1 hc
    obtain ⟨j,x,hx,hdx⟩:=many r hk
    obtain ⟨i',hi'⟩:=List.mem_iff_getElem?.1 hr
    rcases h0.mem.blk i _ hrow with ⟨_,rfl⟩ | ⟨b,cap,cs,q1,q2,q3,q4,q5,q6,q7⟩
    ·cases hr
    ·obtain ⟨v,_,_,hv⟩:=q7 i' r j x hi' hx
     have:=hv.placed d hdx
     rw [hnp] at this;cases this
  have key:(st.addBlk d (.own d) (.arr e z rows)).release d=st.applyA o.dst ⟨.d (.sl rows),none⟩ none:=by
   have e1:(st.addBlk d (.own d) (.arr e z rows)).release d={ t:=(st.addBlk d (.own d) (.arr e z rows)).t.map (AV.sub d (snapLeaf (.arr e z rows))),m:=subMem d (snapLeaf (.arr e z rows)) ((st.addBlk d (.own d) (.arr e z rows)).m.set d none) }:=by
    unfold St.release
    rw [hn1]
   rw [e1,hd]
   simp only [St.addBlk,St.applyA,St.apply,St.put,killT,killM,List.map_set,List.set_set]
   have ht:st.t.map (AV.sub d (snapLeaf (.arr e z rows)))=st.t:=by
    apply List.ext_getElem?
    intro i
    rw [List.getElem?_map]
    cases hx:st.t[i]? with
    | none=>rfl
    | some x=>simp only [Option.map_some];rw [z351 d _ x (norefs i x hx)]
   have hm:subMem d (snapLeaf (.arr e z rows)) (st.m.set d none)=st.m:=by
    apply List.ext_getElem?
    intro i
    rw [z35,List.getElem?_set]
    by_cases hi:d=i
    ·subst hi
     rw [if_pos rfl,if_pos hl,hfr]
     rfl
    ·rw [if_neg hi]
     cases hx:st.m[i]? with
     | none=>rfl
     | some ob =>
      cases ob with
      | none=>rfl
      | some b =>
       cases b with
       | box row=>simp only [Option.map_some,Blk.sub];rw [← AV.subs_eq,z72 d _ row (norefm i _ hx)]
       | arr=>rfl
       | mp=>rfl
       | arrP=>rfl
       | arrA e' z' rows' =>
        simp only [Option.map_some,Blk.sub,Option.some.injEq,Blk.arrA.injEq,true_and]
        exact (List.map_congr_left fun r hr=>by rw [← AV.subs_eq,z72 d _ r (fun hc=>norefm i _ hx (z74.2 ⟨r,hr,hc⟩))];rfl).trans (List.map_id rows')
   rw [ht,hm]
   simp [AV.sub,snapLeaf]
  rw [← key]
  exact h2
def EffGA (P:Program) (ops:Array Oper) (o:Oper) (s:St) (e:Eff) (k:Option Nat):Prop:=match guardT ops o with
 | none=>False
 | some none=>EffA P o s e k
 | some (some (t,want))=>(s.ev (.tmp t)=.d (.bool want)∧EffA P o s e k)∨((s.ev (.tmp t)=.d (.bool (!want))∨s.ev (.tmp t)=.void)∧e=⟨.void,none⟩∧k=none)
theorem EffGA.step {e:Eff} {k:Option Nat} (h:EffGA P ops o s e k):StepG P ops o s (s.applyA o.dst e k):=by
 unfold EffGA at h
 unfold StepG
 unfold guardT at h
 cases hg:o.guard with
 | none=>rw [hg] at h;exact h.step
 | some gw =>
  obtain ⟨j,want⟩:=gw
  rw [hg] at h
  simp only at h ⊢
  cases ht:(ops[j]?).bind (·.dst) with
  | none=>rw [ht] at h;exact h.elim
  | some t =>
   rw [ht] at h
   refine ⟨t,rfl,?_⟩
   rcases h with ⟨h1,h2⟩ | ⟨h1,rfl,rfl⟩
   ·exact .inl ⟨h1,h2.step⟩
   ·exact .inr ⟨h1,by cases o.dst <;> rfl⟩
structure RecA where
 i:Nat
 e:Eff
 k:Option Nat
 N:List Nat
 R:List Nat
 u:Bool
def boxE (e:Eff):List Nat:=match e.m with
 | some (_,b)=>b.names
 | _=>[]
structure LocalA (P:Program) (ops:Array Oper) (o:Oper) (s:St) (r:RecA):Prop where
 eff:EffGA P ops o s r.e r.k
 loc:∀ s':St,(∀ t ∈ o.looksAt ops,s.ev (.tmp t)=s'.ev (.tmp t))→s.t.length=s'.t.length→s.m.length=s'.m.length→Agree r.N s.m s'.m→EffGA P ops o s' r.e r.k
 look:∀ t ∈ o.looksAt ops,∀ n ∈ (s.ev (.tmp t)).refs,n ∈ r.R
 whole:r.u=true→∀ t ∈ o.looksAt ops,(s.ev (.tmp t)).whole=true
 val:∀ n ∈ r.e.v.refs,n ∈ r.R
inductive ChainA (P:Program) (ops:Array Oper):List RecA→St→St→Prop where
 | nil (s:St):ChainA P ops [] s s
 | cons {r:RecA} {rs:List RecA} {s s':St} {o:Oper} (ho:ops[r.i]?=some o) (hd:dstOk o=true) (h:LocalA P ops o s r) (ht:ChainA P ops rs (s.applyA o.dst r.e r.k) s'):ChainA P ops (r::rs) s s'
def missB (k:Option Nat) (R:List Nat):Bool:=match k with
 | none=>true
 | some n=>!R.contains n
abbrev KeyA:=Nat × List Nat × List Nat × Option Nat × List Nat × Bool × List Nat
def RecA.key (r:RecA):KeyA:=(r.i,r.e.name,r.N,r.k,r.R,r.u,boxE r.e)
def clearB (Bf:Nat→List Nat) (k:Option Nat) (b:KeyA):Bool:=match k with
 | none=>true
 | some n=>(Bf n).all fun q=>!(b.2.2.1.contains q || b.2.1.contains q)
def indepA (ops:Array Oper) (Bf:Nat→List Nat) (a b:KeyA):Bool:=indepB ops (a.1,a.2.1,a.2.2.1) (b.1,b.2.1,b.2.2.1) &&
 ((a.2.2.2.1.isNone || (b.2.2.2.2.2.1 && missB a.2.2.2.1 b.2.2.2.2.1)) && ((missB b.2.2.2.1 a.2.2.2.2.1 && (a.2.2.2.1.isNone || b.2.2.2.1.isNone)) && (clearB Bf a.2.2.2.1 b && clearB Bf b.2.2.2.1 a)))
def InB (Bf:Nat→List Nat) (Ks:List Nat) (m:List (Option Blk)):Prop:=∀ n ∈ Ks,∀ (i:Nat) b,m[i]?=some (some b)→n ∈ b.names→i ∈ Bf n
def okRec (Bf:Nat→List Nat) (Ks:List Nat) (r:RecA):Prop:=(∀ n,r.k=some n→n ∈ Ks)∧∀ n ∈ boxE r.e,n ∈ Ks→∀ q ∈ r.e.name,q ∈ Bf n
theorem InB.apply {Bf:Nat→List Nat} {Ks:List Nat} (h:InB Bf Ks s.m) {dst:Option Tmp} {e:Eff} {k:Option Nat} (hb:∀ n ∈ boxE e,n ∈ Ks→∀ q ∈ e.name,q ∈ Bf n):InB Bf Ks (s.applyA dst e k).m:=by
 intro n hn i row h1 h2
 obtain ⟨v,m⟩:=e
 have old:(killM k s.m)[i]?=some (some row)→i ∈ Bf n:=by
  intro h3
  cases k with
  | none=>exact h n hn i row h3 h2
  | some q =>
   simp only [killM,z35,Option.map_eq_some_iff] at h3
   obtain ⟨ob,hob,b,hb1,hb2⟩:=h3
   subst hb1
   subst hb2
   exact h n hn i b hob (Blk.sub_names h2)
 cases m with
 | none=>exact old h1
 | some nb =>
  obtain ⟨q,b⟩:=nb
  simp only [St.applyA,St.apply] at h1
  rw [List.getElem?_set] at h1
  split at h1
  ·rename_i hqi
   split at h1
   ·cases h1
    exact hb n (by simpa [boxE] using h2) hn i (by simp [Eff.name,hqi])
   ·cases h1
  ·exact old h1
def FreeChain (P:Program) (ops:Array Oper) (Bf:Nat→List Nat) (Ks:List Nat) (rs:List RecA) (s s':St):Prop:=InB Bf Ks s.m∧(∀ r ∈ rs,okRec Bf Ks r)∧ChainA P ops rs s s'
def pairsA (ops:Array Oper) (Bf:Nat→List Nat) (ms:List Nat):List KeyA→Bool
 | []=>true
 | a::l=>l.all (fun b=>(ms.getD b.1 0).testBit a.1 || indepA ops Bf a b) && pairsA ops Bf ms l
def inBoxes (B0:List (Nat × List Nat)) (acc:List KeyA) (n:Nat):List Nat:=(B0.flatMap fun p=>if p.2.contains n then [p.1] else [])++acc.flatMap fun b=>if b.2.2.2.2.2.2.contains n then b.2.1 else []
def killsOf (rs:List RecA):List Nat:=rs.filterMap (·.k)
end
def lookRefs (s:St) (ops:Array Oper) (o:Oper):List Nat:=(o.looksAt ops).flatMap fun t=>(s.ev (.tmp t)).refs
def lookWhole (s:St) (ops:Array Oper) (o:Oper):Bool:=(o.looksAt ops).all fun t=>(s.ev (.tmp t)).whole
def relB (rl:List Nat) (dst:Option Tmp):Bool:=match dst with
 | some d=>rl.contains d
 | none=>false
def relE (rl:List Nat) (dst:Option Tmp) (s:St) (r:Eff × Option Nat):Option (Eff × Option Nat):=if relB rl dst=true then (match r,dst with
  | (⟨.own n,some (n',.arr el z rows)⟩,some n''),some d=>match s.m[n]?,s.t[d]? with
   | some _,some _=>if n=n'∧n=n'' then some (⟨.d (.sl rows),some (n,.arr el z [])⟩,some n) else none
   | _,_=>none
  | _,_=>none) else some r
def effA (P:Program) (rl:List Nat) (o:Oper) (s:St) (C:Eff→Option Nat→List Nat→Prop):Prop:=match o.op with
 | .call { callee:=.builtin .append,args,argTypes }=>match argTypes.toList,args.toList with
  | [t,t'],[a,x]=>bindK (appOf P s o.dst t t' (s.ev a) (s.ev x)) fun r=>bindK (relE rl o.dst s r) fun r=>C r.1 r.2 ((s.ev a).refs++(s.ev x).refs++o.dst.toList)
  | _,_=>False
 | .buildSlice t len parts=>if relB rl o.dst=true then (bindK o.dst fun d=>bindK (opBuildSlice P s t len (parts.toList.map fun p=>(p.1,s.ev p.2))) fun b =>
   AV.refsAll (parts.toList.map fun p=>s.ev p.2)=[]∧s.fresh d=true∧match s.t[d]?,b with
    | some _,.arr _ _ rows=>C ⟨.d (.sl rows),none⟩ none [d]
    | _,_=>False) else effK P o s fun e N=>C e none N
 | _=>effK P o s fun e N=>C e none N
def guardRunA (P:Program) (rl:List Nat) (t:AV) (want:Bool) (o:Oper) (s:St) (R:Eff→Option Nat→List Nat→Prop):Prop:=∀ K':Eff→Option Nat→List Nat→Prop,(∀ e k N,R e k N→K' e k N)→guardK t want (effA P rl o s K') (K' ⟨.void,none⟩ none [])
def runA (P:Program) (rl:List Nat) (ops:Array Oper) (B0:List (Nat × List Nat)):List Oper→Nat→List KeyA→St→(St→Prop)→Prop
 | [],_,acc,s,K=>pairsA ops (inBoxes B0 acc.reverse) (masks ops.toList []) acc.reverse=true∧K s
 | o::os,i,acc,s,K=>dstOk o=true∧match guardT ops o with
  | none=>False
  | some none=>effA P rl o s fun e k N=>runA P rl ops B0 os (i + 1) ((i,e.name,N,k,lookRefs s ops o++e.v.refs,lookWhole s ops o,boxE e)::acc) (s.applyA o.dst e k) K
  | some (some (t,want))=>guardRunA P rl (s.ev (.tmp t)) want o s fun e k N=>runA P rl ops B0 os (i + 1) ((i,e.name,N,k,lookRefs s ops o++e.v.refs,lookWhole s ops o,boxE e)::acc) (s.applyA o.dst e k) K
section
variable {P:Program} {rd:Option Nat} {n:Nat} {J:Env} {k:Option Nat} {st:St} {ops:Array Oper} {Q:Exit→Option Nat→St→Prop} {o:Oper} {s:St}
end
def oldA (C:Eff→Option Nat→List Nat→Prop) (e:Eff) (N:List Nat):Prop:=C e none N
theorem z864 (P:Program) (rl:List Nat) (o:Oper) (s:St) (C:Eff→Option Nat→List Nat→Prop):effA P rl o s C=(match o.op with
 | .call { callee:=.builtin .append,args,argTypes }=>match argTypes.toList,args.toList with
  | [t,t'],[a,x]=>bindK (appOf P s o.dst t t' (s.ev a) (s.ev x)) fun r=>bindK (relE rl o.dst s r) fun r=>C r.1 r.2 ((s.ev a).refs++(s.ev x).refs++o.dst.toList)
  | _,_=>False
 | .buildSlice t len parts=>if relB rl o.dst=true then (bindK o.dst fun d=>bindK (opBuildSlice P s t len (parts.toList.map fun p=>(p.1,s.ev p.2))) fun b =>
   AV.refsAll (parts.toList.map fun p=>s.ev p.2)=[]∧s.fresh d=true∧match s.t[d]?,b with
    | some _,.arr _ _ rows=>C ⟨.d (.sl rows),none⟩ none [d]
    | _,_=>False) else effK P o s (oldA C)
 | _=>effK P o s (oldA C)):=rfl
theorem z476 {P:Program} {rl:List Nat} {o:Oper} {s:St} {C C':Eff→Option Nat→List Nat→Prop} (h:effA P rl o s C) (hC:∀ e k N,C e k N→C' e k N):effA P rl o s C':=by
 unfold effA at h ⊢
 split
 ·rename_i ho
  simp only [ho] at h
  split at h
  ·obtain ⟨r,h1,r',h2,h3⟩:=h
   exact ⟨r,h1,r',h2,hC _ _ _ h3⟩
  ·exact h.elim
 ·rename_i ho
  simp only [ho] at h
  split at h
  ·rename_i hr
   rw [if_pos hr]
   obtain ⟨d,hd,b,hb,h1,h2,h3⟩:=h
   refine ⟨d,hd,b,hb,h1,h2,?_⟩
   split at h3
   ·exact hC _ _ _ h3
   ·exact h3.elim
  ·rename_i hr
   rw [if_neg hr]
   exact z179 h fun e N hc=>hC _ _ _ hc
 ·rename_i hno hno2
  split at h
  ·rename_i ho;exact absurd ho (hno _ _)
  ·rename_i ho;exact absurd ho (hno2 _ _ _)
  ·exact z179 h fun e N hc=>hC _ _ _ hc
theorem z464 (P:Program) (rl:List Nat) (o:Oper) (s:St) (R:Eff→Option Nat→List Nat→Prop):guardRunA P rl (.d (.bool true)) true o s R=effA P rl o s R:=by
 apply propext
 exact ⟨fun h=>(h R (fun _ _ _ h=>h)).1 rfl,fun h K' hK=>⟨fun _=>z476 h hK,fun e=>(by cases e)⟩⟩
theorem z467 (P:Program) (rl:List Nat) (o:Oper) (s:St) (R:Eff→Option Nat→List Nat→Prop):guardRunA P rl (.d (.bool false)) false o s R=effA P rl o s R:=by
 apply propext
 exact ⟨fun h=>(h R (fun _ _ _ h=>h)).1 rfl,fun h K' hK=>⟨fun _=>z476 h hK,fun e=>(by cases e)⟩⟩
theorem z465 (P:Program) (rl:List Nat) (o:Oper) (s:St) (R:Eff→Option Nat→List Nat→Prop):guardRunA P rl (.d (.bool true)) false o s R=R ⟨.void,none⟩ none []:=by
 apply propext
 exact ⟨fun h=>(h R (fun _ _ _ h=>h)).2 rfl,fun h K' hK=>⟨fun e=>(by cases e),fun _=>hK _ _ _ h⟩⟩
theorem z466 (P:Program) (rl:List Nat) (o:Oper) (s:St) (R:Eff→Option Nat→List Nat→Prop):guardRunA P rl (.d (.bool false)) true o s R=R ⟨.void,none⟩ none []:=by
 apply propext
 exact ⟨fun h=>(h R (fun _ _ _ h=>h)).2 rfl,fun h K' hK=>⟨fun e=>(by cases e),fun _=>hK _ _ _ h⟩⟩
theorem z287 (P:Program) (rl:List Nat) (want:Bool) (o:Oper) (s:St) (R:Eff→Option Nat→List Nat→Prop):guardRunA P rl .void want o s R=R ⟨.void,none⟩ none []:=by
 apply propext
 exact ⟨fun h=>h R (fun _ _ _ h=>h),fun h K' hK=>hK _ _ _ h⟩
def contA (P:Program) (rl:List Nat) (ops:Array Oper) (B0:List (Nat × List Nat)) (os:List Oper) (i:Nat) (acc:List KeyA) (s:St) (o:Oper) (K:St→Prop) (e:Eff) (k:Option Nat) (N:List Nat):Prop :=
 runA P rl ops B0 os (i + 1) ((i,e.name,N,k,lookRefs s ops o++e.v.refs,lookWhole s ops o,boxE e)::acc) (s.applyA o.dst e k) K
theorem z805 (P:Program) (rl:List Nat) (ops:Array Oper) (B0:List (Nat × List Nat)) (i:Nat) (acc:List KeyA) (s:St) (K:St→Prop):runA P rl ops B0 [] i acc s K=(pairsA ops (inBoxes B0 acc.reverse) (masks ops.toList []) acc.reverse=true∧K s):=rfl
theorem z745 (P:Program) (rl:List Nat) (ops:Array Oper) (B0:List (Nat × List Nat)) (o:Oper) (os:List Oper) (i:Nat) (acc:List KeyA) (x:AV) (t:List AV) (m:List (Option Blk)) (K:St→Prop):runA P rl ops B0 (o::os) i acc ⟨x::t,m⟩ K=(dstOk o=true∧match guardT ops o with
  | none=>False
  | some none=>effA P rl o ⟨x::t,m⟩ (contA P rl ops B0 os i acc ⟨x::t,m⟩ o K)
  | some (some (t',want))=>guardRunA P rl ((⟨x::t,m⟩:St).ev (.tmp t')) want o ⟨x::t,m⟩ (contA P rl ops B0 os i acc ⟨x::t,m⟩ o K)):=rfl
theorem z700 (t:List AV):killT none t=t:=rfl
theorem z699 (n:Nat) (t:List AV):killT (some n) t=t.map (AV.sub n fun _=>.undef):=rfl
theorem z703 (m:List (Option Blk)):killM none m=m:=rfl
theorem z702 (n:Nat) (m:List (Option Blk)):killM (some n) m=subMem n (fun _=>.undef) m:=rfl
theorem z809 (dst:Option Tmp) (s:St) (r:Eff × Option Nat):relE [] dst s r=some r:=by cases dst <;> rfl
theorem z810 (dst:Option Tmp):relB [] dst=false:=by cases dst <;> rfl
theorem z746 (rl:List Nat) (d:Tmp):relB rl (some d)=rl.contains d:=rfl
attribute [go_sem] z809 z810 z746 relE List.contains_nil
attribute [go_sem] List.contains_cons z805 z745 contA oldA z864 appOf boxTab z703 z702 St.applyA z700 z699 z464 z467 z465 z466 z287
theorem CallR.made {P:Program} {st:St} {dst:Option Tmp} {g:FuncId} {xs:List AV} {ds:List DV} {r:AV} {m1:List Blk} (news:List Nat) (hf:FnG P g [] [] (ds.map AV.d) r m1) (hd:reifyAll st xs=some ds) (hn:news.Nodup) (hl:news.length=m1.length)
  (hnew:news.all st.fresh=true) (hx:AV.refsAll xs=[]):CallR P st dst g xs (({ st with m:=putM news (m1.map (Blk.mapN fun i=>news[i]?)) st.m }:St).put dst (r.mapN fun i=>news[i]?)):=by
 obtain ⟨h1,h2⟩:=z22 hd
 have:=CallR.gen (dst:=dst) (st:=st) (xs:=xs) [] [] (ds.map AV.d) r m1 [] news [] [] hf (by simpa using hn) rfl (by simpa using hl) (by intro i b h;simp at h) (fun n hn=>z26 (List.all_eq_true.1 hnew n hn)) (by simpa using h1) (fun i x y hi hy=>by
  simp only [List.getElem?_map,Option.map_eq_some_iff] at hy
  obtain ⟨d,hy,rfl⟩:=hy
  have h3:=h2 i d hy
  simp only [List.getElem?_map,Option.map_eq_some_iff] at h3
  obtain ⟨x',hx',hr⟩:=h3
  rw [hi] at hx'
  cases hx'
  refine .inl ⟨d,rfl,hr,fun n hn=>?_⟩
  have:=z573 hx (List.mem_of_getElem? hi)
  rw [this] at hn
  cases hn) (by simp) (by intro n hn;simp at hn) (by intro i n h;simp at h) (.inl rfl)
 exact this
theorem CallR.inPlace {P:Program} {st:St} {dst:Option Tmp} {g:FuncId} {xs:List AV} (n:Nat) {b0 b0' b1:Blk} {args:List AV} {r:AV} (hf:FnG P g [b0] [0] args r [b1]) (hn:st.m[n]?=some (some b0')) (hb:b0=b0'.mapN (inv [n])) (hla:xs.length=args.length)
  (ha:∀ (i:Nat) x y,xs[i]?=some x→args[i]?=some y→argG st [n] [] x y):CallR P st dst g xs (({ st with m:=st.m.set n (some (b1.mapN fun i=>[n][i]?)) }:St).put dst (r.mapN fun i=>[n][i]?)):=by
 have:=CallR.gen (dst:=dst) (st:=st) [b0] [0] args r [b1] [n] [] [] [] hf (by simp) rfl rfl (fun i b hi=>by
  cases i with
  | zero=>cases hi;exact ⟨n,b0',rfl,hn,hb⟩
  | succ i=>simp at hi) (by simp) hla ha (by simp) (by intro n hn;simp at hn) (fun i k hi _=>by
  cases i with
  | zero=>simp
  | succ i=>simp at hi) (.inl rfl)
 exact this
end Go.Ab
/- Arrays of which the room is asked: full,or with room behind;and arrays with room that settle. -/
namespace Go.Ab
open Go.RowKit
def roomed (len:Nat):AV→AV
 | .own n=>.vc n len
 | .view n off k=>.view n off k
 | .elem n i o=>.elem n i o
 | _=>.undef
def fulled (e:TypeId) (z:Nat) (rows:List (List DV)):AV→AV
 | .own _=>.dfull rows
 | y=>snapLeaf (.arr e z rows) y
def settled (len:Nat):AV→AV
 | .vh n k=>if k=len then .own n else .undef
 | .view n off k=>if off + k≤len then .view n off k else .undef
 | .elem n i o=>.elem n i o
 | _=>.undef
def St.roomed (n:Nat) (st:St):St:=match (st.m[n]?:Option (Option Blk)) with
 | some (some (.arr e z rows))=>{ t:=st.t.map (AV.sub n (Ab.roomed rows.length)),m:=(subMem n (Ab.roomed rows.length) st.m).set n (some (.arrP e z rows)) }
 | _=>st
def St.fulled (n:Nat) (st:St):St:=match (st.m[n]?:Option (Option Blk)) with
 | some (some (.arr e z rows))=>{ t:=st.t.map (AV.sub n (Ab.fulled e z rows)),m:=subMem n (Ab.fulled e z rows) (st.m.set n none) }
 | _=>st
def St.settle (n:Nat) (st:St):St:=match (st.m[n]?:Option (Option Blk)) with
 | some (some (.arrP e z rows))=>{ t:=st.t.map (AV.sub n (settled rows.length)),m:=(subMem n (settled rows.length) st.m).set n (some (.arr e z rows)) }
 | _=>st
section
variable {P:Program} {base:Own} {out:Own} {st st':St} {μ:Pl} {tmps:Array Value} {w w':World}
end
attribute [go_sem] St.roomed St.fulled St.settle roomed fulled settled opSlice3
end Go.Ab
/- The program's type table,as the engine asks for it. -/
namespace Go.Ab
open Go.RowKit Go.Proofs
theorem z737:tsz Try.prog 0=(some 1):=by kernel_rfl
theorem z413:tbytes Try.prog 0=(some 0):=by kernel_rfl
theorem z683:tagg Try.prog 0=(some false):=by kernel_rfl
theorem z736:tsz Try.prog 1=(some 1):=by kernel_rfl
theorem z412:tbytes Try.prog 1=(some 8):=by kernel_rfl
theorem z682:tagg Try.prog 1=(some false):=by kernel_rfl
theorem z735:tsz Try.prog 2=(some 1):=by kernel_rfl
theorem z411:tbytes Try.prog 2=(some 8):=by kernel_rfl
theorem z681:tagg Try.prog 2=(some false):=by kernel_rfl
theorem z672:tint Try.prog 2=(some IntKind.i64):=by kernel_rfl
theorem z734:tsz Try.prog 3=(some 1):=by kernel_rfl
theorem z410:tbytes Try.prog 3=(some 8):=by kernel_rfl
theorem z680:tagg Try.prog 3=(some false):=by kernel_rfl
theorem z671:tint Try.prog 3=(some IntKind.i64):=by kernel_rfl
theorem z733:tsz Try.prog 4=(some 1):=by kernel_rfl
theorem z409:tbytes Try.prog 4=(some 1):=by kernel_rfl
theorem z679:tagg Try.prog 4=(some false):=by kernel_rfl
theorem z732:tsz Try.prog 5=(some 1):=by kernel_rfl
theorem z408:tbytes Try.prog 5=(some 1):=by kernel_rfl
theorem z678:tagg Try.prog 5=(some false):=by kernel_rfl
theorem z670:tint Try.prog 5=(some IntKind.u8):=by kernel_rfl
theorem z731:tsz Try.prog 6=(some 1):=by kernel_rfl
theorem z407:tbytes Try.prog 6=(some 1):=by kernel_rfl
theorem z677:tagg Try.prog 6=(some false):=by kernel_rfl
theorem z669:tint Try.prog 6=(some IntKind.u8):=by kernel_rfl
theorem z730:tsz Try.prog 7=(some 4):=by kernel_rfl
theorem z406:tbytes Try.prog 7=(some 24):=by kernel_rfl
theorem z676:tagg Try.prog 7=(some true):=by kernel_rfl
theorem z326:tfields Try.prog 7=(some [(0,(1,false)),(1,(1,false)),(2,(1,false)),(3,(1,false))]):=by kernel_rfl
theorem z738:teq Try.prog 7=(some [(0,false),(1,false),(2,true),(3,false)]):=by kernel_rfl
theorem z729:tsz Try.prog 9=(some 1):=by kernel_rfl
theorem z405:tbytes Try.prog 9=(some 16):=by kernel_rfl
theorem z675:tagg Try.prog 9=(some false):=by kernel_rfl
theorem z668:tsz Try.prog 17=(some 1):=by kernel_rfl
theorem z350:tbytes Try.prog 17=(some 8):=by kernel_rfl
theorem z560:tagg Try.prog 17=(some false):=by kernel_rfl
theorem z667:tsz Try.prog 22=(some 1):=by kernel_rfl
theorem z349:tbytes Try.prog 22=(some 24):=by kernel_rfl
theorem z559:tagg Try.prog 22=(some false):=by kernel_rfl
theorem z325:tslice Try.prog 22=(some 49):=by kernel_rfl
theorem z666:tsz Try.prog 24=(some 2):=by kernel_rfl
theorem z348:tbytes Try.prog 24=(some 32):=by kernel_rfl
theorem z558:tagg Try.prog 24=(some true):=by kernel_rfl
theorem z258:tfields Try.prog 24=(some [(0,(1,false)),(1,(1,false))]):=by kernel_rfl
theorem z665:tsz Try.prog 26=(some 2):=by kernel_rfl
theorem z347:tbytes Try.prog 26=(some 16):=by kernel_rfl
theorem z557:tagg Try.prog 26=(some true):=by kernel_rfl
theorem z257:tfields Try.prog 26=(some [(0,(1,false)),(1,(1,false))]):=by kernel_rfl
theorem z674:teq Try.prog 26=(some [(0,false),(1,false)]):=by kernel_rfl
theorem z664:tsz Try.prog 28=(some 4):=by kernel_rfl
theorem z346:tbytes Try.prog 28=(some 32):=by kernel_rfl
theorem z556:tagg Try.prog 28=(some true):=by kernel_rfl
theorem z256:tfields Try.prog 28=(some [(0,(1,false)),(1,(1,false)),(2,(2,true))]):=by kernel_rfl
theorem z673:teq Try.prog 28=(some [(0,false),(1,false),(2,false),(3,false)]):=by kernel_rfl
theorem z663:tsz Try.prog 29=(some 1):=by kernel_rfl
theorem z345:tbytes Try.prog 29=(some 24):=by kernel_rfl
theorem z555:tagg Try.prog 29=(some false):=by kernel_rfl
theorem z324:tslice Try.prog 29=(some 3):=by kernel_rfl
theorem z662:tsz Try.prog 31=(some 6):=by kernel_rfl
theorem z344:tbytes Try.prog 31=(some 64):=by kernel_rfl
theorem z554:tagg Try.prog 31=(some true):=by kernel_rfl
theorem z255:tfields Try.prog 31=(some [(0,(1,false)),(1,(1,false)),(2,(1,false)),(3,(1,false)),(4,(1,false)),(5,(1,false))]):=by kernel_rfl
theorem z661:tsz Try.prog 32=(some 1):=by kernel_rfl
theorem z343:tbytes Try.prog 32=(some 8):=by kernel_rfl
theorem z553:tagg Try.prog 32=(some false):=by kernel_rfl
theorem z660:tsz Try.prog 35=(some 1):=by kernel_rfl
theorem z342:tbytes Try.prog 35=(some 8):=by kernel_rfl
theorem z552:tagg Try.prog 35=(some false):=by kernel_rfl
theorem z536:tint Try.prog 35=(some IntKind.i64):=by kernel_rfl
theorem z659:tsz Try.prog 40=(some 1):=by kernel_rfl
theorem z341:tbytes Try.prog 40=(some 8):=by kernel_rfl
theorem z551:tagg Try.prog 40=(some false):=by kernel_rfl
theorem z658:tsz Try.prog 41=(some 1):=by kernel_rfl
theorem z340:tbytes Try.prog 41=(some 8):=by kernel_rfl
theorem z550:tagg Try.prog 41=(some false):=by kernel_rfl
theorem z657:tsz Try.prog 42=(some 1):=by kernel_rfl
theorem z339:tbytes Try.prog 42=(some 0):=by kernel_rfl
theorem z549:tagg Try.prog 42=(some false):=by kernel_rfl
theorem z656:tsz Try.prog 47=(some 1):=by kernel_rfl
theorem z338:tbytes Try.prog 47=(some 24):=by kernel_rfl
theorem z548:tagg Try.prog 47=(some false):=by kernel_rfl
theorem z323:tslice Try.prog 47=(some 26):=by kernel_rfl
theorem z655:tsz Try.prog 49=(some 8):=by kernel_rfl
theorem z337:tbytes Try.prog 49=(some 80):=by kernel_rfl
theorem z547:tagg Try.prog 49=(some true):=by kernel_rfl
theorem z254:tfields Try.prog 49=(some [(0,(1,false)),(1,(1,false)),(2,(1,false)),(3,(2,true)),(5,(2,true)),(7,(1,false))]):=by kernel_rfl
theorem z654:tsz Try.prog 52=(some 15):=by kernel_rfl
theorem z336:tbytes Try.prog 52=(some 136):=by kernel_rfl
theorem z546:tagg Try.prog 52=(some true):=by kernel_rfl
theorem z253:tfields Try.prog 52=(some [(0,(1,false)),(1,(1,false)),(2,(1,false)),(3,(1,false)),(4,(1,false)),(5,(1,false)),(6,(1,false)),(7,(8,true))]):=by kernel_rfl
theorem z653:tsz Try.prog 68=(some 6):=by kernel_rfl
theorem z335:tbytes Try.prog 68=(some 64):=by kernel_rfl
theorem z545:tagg Try.prog 68=(some true):=by kernel_rfl
theorem z252:tfields Try.prog 68=(some [(0,(2,true)),(2,(4,true))]):=by kernel_rfl
theorem z652:tsz Try.prog 72=(some 2):=by kernel_rfl
theorem z334:tbytes Try.prog 72=(some 48):=by kernel_rfl
theorem z544:tagg Try.prog 72=(some true):=by kernel_rfl
theorem z251:tfields Try.prog 72=(some [(0,(1,false)),(1,(1,false))]):=by kernel_rfl
theorem z651:tsz Try.prog 74=(some 1):=by kernel_rfl
theorem z333:tbytes Try.prog 74=(some 8):=by kernel_rfl
theorem z543:tagg Try.prog 74=(some false):=by kernel_rfl
theorem z650:tsz Try.prog 76=(some 1):=by kernel_rfl
theorem z332:tbytes Try.prog 76=(some 24):=by kernel_rfl
theorem z542:tagg Try.prog 76=(some false):=by kernel_rfl
theorem z322:tslice Try.prog 76=(some 29):=by kernel_rfl
theorem z649:tsz Try.prog 78=(some 1):=by kernel_rfl
theorem z331:tbytes Try.prog 78=(some 8):=by kernel_rfl
theorem z541:tagg Try.prog 78=(some false):=by kernel_rfl
theorem z648:tsz Try.prog 93=(some 1):=by kernel_rfl
theorem z330:tbytes Try.prog 93=(some 8):=by kernel_rfl
theorem z540:tagg Try.prog 93=(some false):=by kernel_rfl
theorem z647:tsz Try.prog 97=(some 1):=by kernel_rfl
theorem z329:tbytes Try.prog 97=(some 8):=by kernel_rfl
theorem z539:tagg Try.prog 97=(some false):=by kernel_rfl
theorem z646:tsz Try.prog 98=(some 1):=by kernel_rfl
theorem z328:tbytes Try.prog 98=(some 8):=by kernel_rfl
theorem z538:tagg Try.prog 98=(some false):=by kernel_rfl
theorem z645:tsz Try.prog 99=(some 1):=by kernel_rfl
theorem z327:tbytes Try.prog 99=(some 8):=by kernel_rfl
theorem z537:tagg Try.prog 99=(some false):=by kernel_rfl
theorem z535:tsz Try.prog 100=(some 1):=by kernel_rfl
theorem z275:tbytes Try.prog 100=(some 8):=by kernel_rfl
theorem z430:tagg Try.prog 100=(some false):=by kernel_rfl
theorem z534:tsz Try.prog 101=(some 1):=by kernel_rfl
theorem z274:tbytes Try.prog 101=(some 8):=by kernel_rfl
theorem z429:tagg Try.prog 101=(some false):=by kernel_rfl
theorem z533:tsz Try.prog 102=(some 1):=by kernel_rfl
theorem z273:tbytes Try.prog 102=(some 8):=by kernel_rfl
theorem z428:tagg Try.prog 102=(some false):=by kernel_rfl
theorem z532:tsz Try.prog 103=(some 1):=by kernel_rfl
theorem z272:tbytes Try.prog 103=(some 8):=by kernel_rfl
theorem z427:tagg Try.prog 103=(some false):=by kernel_rfl
theorem z531:tsz Try.prog 104=(some 1):=by kernel_rfl
theorem z271:tbytes Try.prog 104=(some 8):=by kernel_rfl
theorem z426:tagg Try.prog 104=(some false):=by kernel_rfl
theorem z530:tsz Try.prog 105=(some 1):=by kernel_rfl
theorem z270:tbytes Try.prog 105=(some 8):=by kernel_rfl
theorem z425:tagg Try.prog 105=(some false):=by kernel_rfl
theorem z529:tsz Try.prog 108=(some 1):=by kernel_rfl
theorem z269:tbytes Try.prog 108=(some 8):=by kernel_rfl
theorem z424:tagg Try.prog 108=(some false):=by kernel_rfl
theorem z528:tsz Try.prog 109=(some 1):=by kernel_rfl
theorem z268:tbytes Try.prog 109=(some 8):=by kernel_rfl
theorem z423:tagg Try.prog 109=(some false):=by kernel_rfl
theorem z404:tint Try.prog 109=(some IntKind.u64):=by kernel_rfl
theorem z527:tsz Try.prog 110=(some 1):=by kernel_rfl
theorem z267:tbytes Try.prog 110=(some 0):=by kernel_rfl
theorem z422:tagg Try.prog 110=(some false):=by kernel_rfl
theorem z526:tsz Try.prog 111=(some 1):=by kernel_rfl
theorem z266:tbytes Try.prog 111=(some 8):=by kernel_rfl
theorem z421:tagg Try.prog 111=(some false):=by kernel_rfl
theorem z525:tsz Try.prog 114=(some 1):=by kernel_rfl
theorem z265:tbytes Try.prog 114=(some 8):=by kernel_rfl
theorem z420:tagg Try.prog 114=(some false):=by kernel_rfl
theorem z524:tsz Try.prog 115=(some 1):=by kernel_rfl
theorem z264:tbytes Try.prog 115=(some 8):=by kernel_rfl
theorem z419:tagg Try.prog 115=(some false):=by kernel_rfl
theorem z523:tsz Try.prog 116=(some 1):=by kernel_rfl
theorem z263:tbytes Try.prog 116=(some 8):=by kernel_rfl
theorem z418:tagg Try.prog 116=(some false):=by kernel_rfl
theorem z522:tsz Try.prog 117=(some 1):=by kernel_rfl
theorem z262:tbytes Try.prog 117=(some 4):=by kernel_rfl
theorem z417:tagg Try.prog 117=(some false):=by kernel_rfl
theorem z403:tint Try.prog 117=(some IntKind.u32):=by kernel_rfl
theorem z521:tsz Try.prog 118=(some 1):=by kernel_rfl
theorem z261:tbytes Try.prog 118=(some 0):=by kernel_rfl
theorem z416:tagg Try.prog 118=(some false):=by kernel_rfl
theorem z520:tsz Try.prog 119=(some 1):=by kernel_rfl
theorem z260:tbytes Try.prog 119=(some 8):=by kernel_rfl
theorem z415:tagg Try.prog 119=(some false):=by kernel_rfl
theorem z519:tsz Try.prog 120=(some 1):=by kernel_rfl
theorem z259:tbytes Try.prog 120=(some 8):=by kernel_rfl
theorem z414:tagg Try.prog 120=(some false):=by kernel_rfl
theorem z402:tint Try.prog 120=(some IntKind.u64):=by kernel_rfl
theorem z644:tzero Try.prog 1=some Value.nilFunc:=by kernel_rfl
theorem z643:tzero Try.prog 2=some (Value.int IntKind.i64 0):=by kernel_rfl
theorem z642:tzero Try.prog 3=some (Value.int IntKind.i64 0):=by kernel_rfl
theorem z641:tzero Try.prog 4=some (Value.bool false):=by kernel_rfl
theorem z640:tzero Try.prog 5=some (Value.int IntKind.u8 0):=by kernel_rfl
theorem z639:tzero Try.prog 6=some (Value.int IntKind.u8 0):=by kernel_rfl
theorem z638:tzero Try.prog 7=some (Value.agg #[Value.int IntKind.i64 0,Value.int IntKind.i64 0,Value.bool false,Value.int IntKind.u8 0]):=by kernel_rfl
theorem z518:tzero Try.prog 17=some (Value.pointer none):=by kernel_rfl
theorem z517:tzero Try.prog 22=some (Value.slice none 0 0):=by kernel_rfl
theorem z516:tzero Try.prog 24=some (Value.agg #[Value.int IntKind.i64 0,Value.slice none 0 0]):=by kernel_rfl
theorem z515:tzero Try.prog 26=some (Value.agg #[Value.int IntKind.i64 0,Value.int IntKind.i64 0]):=by kernel_rfl
theorem z514:tzero Try.prog 28=some (Value.agg #[Value.int IntKind.i64 0,Value.int IntKind.i64 0,Value.int IntKind.i64 0,Value.int IntKind.i64 0]):=by kernel_rfl
theorem z513:tzero Try.prog 29=some (Value.slice none 0 0):=by kernel_rfl
theorem z512:tzero Try.prog 31=some (Value.agg #[Value.int IntKind.i64 0,Value.int IntKind.i64 0,Value.int IntKind.i64 0,Value.int IntKind.i64 0,Value.slice none 0 0,Value.int IntKind.i64 0]):=by kernel_rfl
theorem z511:tzero Try.prog 32=some Value.nilFunc:=by kernel_rfl
theorem z510:tzero Try.prog 35=some (Value.int IntKind.i64 0):=by kernel_rfl
theorem z509:tzero Try.prog 40=some Value.nilFunc:=by kernel_rfl
theorem z508:tzero Try.prog 41=some Value.nilFunc:=by kernel_rfl
theorem z507:tzero Try.prog 47=some (Value.slice none 0 0):=by kernel_rfl
theorem z506:tzero Try.prog 49=some (Value.agg #[Value.int IntKind.i64 0,Value.int IntKind.i64 0,Value.int IntKind.i64 0,Value.int IntKind.i64 0,Value.int IntKind.i64 0,Value.int IntKind.i64 0,Value.int IntKind.i64 0,Value.slice none 0 0]):=by kernel_rfl
theorem z505:tzero Try.prog 52=some (Value.agg #[Value.int IntKind.i64 0,Value.int IntKind.i64 0,Value.int IntKind.i64 0,Value.int IntKind.i64 0,Value.int IntKind.i64 0,Value.int IntKind.i64 0,Value.int IntKind.i64 0,Value.int IntKind.i64 0,Value.int IntKind.i64 0,Value.int IntKind.i64 0,Value.int IntKind.i64 0,Value.int IntKind.i64 0,Value.int IntKind.i64 0,Value.int IntKind.i64 0,Value.slice none 0 0]):=by kernel_rfl
theorem z504:tzero Try.prog 68=some (Value.agg #[Value.int IntKind.i64 0,Value.slice none 0 0,Value.int IntKind.i64 0,Value.int IntKind.i64 0,Value.int IntKind.i64 0,Value.int IntKind.i64 0]):=by kernel_rfl
theorem z503:tzero Try.prog 72=some (Value.agg #[Value.slice none 0 0,Value.slice none 0 0]):=by kernel_rfl
theorem z502:tzero Try.prog 74=some Value.nilFunc:=by kernel_rfl
theorem z501:tzero Try.prog 76=some (Value.slice none 0 0):=by kernel_rfl
theorem z500:tzero Try.prog 78=some Value.nilFunc:=by kernel_rfl
theorem z499:tzero Try.prog 93=some Value.nilFunc:=by kernel_rfl
theorem z498:tzero Try.prog 97=some Value.nilFunc:=by kernel_rfl
theorem z497:tzero Try.prog 98=some Value.nilFunc:=by kernel_rfl
theorem z496:tzero Try.prog 99=some Value.nilFunc:=by kernel_rfl
theorem z401:tzero Try.prog 100=some Value.nilFunc:=by kernel_rfl
theorem z400:tzero Try.prog 101=some Value.nilFunc:=by kernel_rfl
theorem z399:tzero Try.prog 102=some Value.nilFunc:=by kernel_rfl
theorem z398:tzero Try.prog 103=some Value.nilFunc:=by kernel_rfl
theorem z397:tzero Try.prog 104=some Value.nilFunc:=by kernel_rfl
theorem z396:tzero Try.prog 105=some Value.nilFunc:=by kernel_rfl
theorem z395:tzero Try.prog 108=some Value.nilFunc:=by kernel_rfl
theorem z394:tzero Try.prog 109=some (Value.int IntKind.u64 0):=by kernel_rfl
theorem z393:tzero Try.prog 111=some Value.nilFunc:=by kernel_rfl
theorem z392:tzero Try.prog 114=some Value.nilFunc:=by kernel_rfl
theorem z391:tzero Try.prog 115=some Value.nilFunc:=by kernel_rfl
theorem z390:tzero Try.prog 116=some Value.nilFunc:=by kernel_rfl
theorem z389:tzero Try.prog 117=some (Value.int IntKind.u32 0):=by kernel_rfl
theorem z388:tzero Try.prog 119=some Value.nilFunc:=by kernel_rfl
theorem z387:tzero Try.prog 120=some (Value.int IntKind.u64 0):=by kernel_rfl
attribute [go_sem] z737 z413 z683 z736 z412 z682 z735 z411 z681 z672 z734 z410 z680 z671 z733 z409 z679 z732 z408 z678 z670 z731 z407 z677 z669 z730 z406 z676 z326 z738 z729 z405 z675 z668 z350 z560 z667 z349 z559 z325 z666 z348 z558 z258 z665 z347 z557 z257 z674 z664 z346 z556 z256 z673 z663 z345 z555 z324 z662 z344 z554 z255 z661 z343 z553 z660 z342 z552 z536 z659 z341 z551 z658 z340 z550 z657 z339 z549 z656 z338 z548 z323 z655 z337 z547 z254 z654 z336 z546 z253 z653 z335 z545 z252 z652 z334 z544 z251 z651 z333 z543 z650 z332 z542 z322 z649 z331 z541 z648 z330 z540 z647 z329 z539 z646 z328 z538 z645 z327 z537 z535 z275 z430 z534 z274 z429 z533 z273 z428 z532 z272 z427 z531 z271 z426 z530 z270 z425 z529 z269 z424 z528 z268 z423 z404 z527 z267 z422 z526 z266 z421 z525 z265 z420 z524 z264 z419 z523 z263 z418 z522 z262 z417 z403 z521 z261 z416 z520 z260 z415 z519 z259 z414 z402 z644 z643 z642 z641 z640 z639 z638 z518 z517 z516 z515 z514 z513 z512 z511 z510 z509 z508 z507 z506 z505 z504 z503 z502 z501 z500 z499 z498 z497 z496 z401 z400 z399 z398 z397 z396 z395 z394 z393 z392 z391 z390 z389 z388 z387 Try.underlying2 Try.underlying3 Try.underlying4 Try.underlying5 Try.underlying6 Try.underlying17 Try.underlying35 Try.underlying109 Try.underlying117 Try.underlying120
theorem weA {st st':St} (h1:lessT [] st.t st'.t) (h2:lessM [] 0 st.m st'.m) (h3:st'.t.all (liveB st'.m)=true:=by rfl) (h4:liveM st'.m st'.m=true:=by rfl):Weak st st':=z39 [] h1 h2 h3 h4
attribute [simp] lessT lessM lessB AV.less
end Go.Ab
namespace Go.Ab
open Go.RowKit Go.Proofs
structure Span where
 lo:Int
 hi:Int
structure Path where
 frm:Int
 to:Int
 grade:Int
 time:Span
 snow:Span
 opens:List Span
structure Net where
 places:Int
 paths:List Path
structure Party where
 grade:Int
 load:Int
 pace:Span
def Span.row (s:Span):List DV:=[.i s.lo,.i s.hi]
def Path.row (p:Path):List DV:=[.i p.frm,.i p.to,.i p.grade,.i p.time.lo,.i p.time.hi,.i p.snow.lo,.i p.snow.hi,.sl (p.opens.map Span.row)]
def Net.cells (n:Net):List DV:=[.i n.places,.sl (n.paths.map Path.row)]
def Party.cells (p:Party):List DV:=[.i p.grade,.i p.load,.i p.pace.lo,.i p.pace.hi]
def walkCells (n:Net) (p:Party):List DV:=[.i n.places,.sl (n.paths.map Path.row),.i p.grade,.i p.load,.i p.pace.lo,.i p.pace.hi]
abbrev wr (x:Int):Int:=IntKind.i64.wrap x
def timeW (t pace snow load:Int):Int:=wr ((wr (wr (wr (t * pace) * wr (wr (100 + wr (5 * snow)) + load)) + 9999)).tdiv 10000)
theorem z40 {α β:Type} (f:β→α→β) (b:β) (l:List α) (i:Nat) (x:α) (h:l[i]?=some x):(l.take (i + 1)).foldl f b=f ((l.take i).foldl f b) x:=by
 rw [List.take_add_one,h];simp
theorem z12 {x:Int} (h:-(2 ^ 63)≤x∧x<2 ^ 63):IntKind.i64.wrap x=x:=by
 rw [IntKind.wrap_i64];omega
def withinB (n lo hi:Int):Bool:=decide (lo≤n) && decide (n≤hi)
def orderedB (s:Span) (lo hi:Int):Bool:=decide (lo≤s.lo) && (decide (s.lo≤s.hi) && decide (s.hi≤hi))
theorem z788 (n lo hi:Int):Fn Try.prog 65 [.i n,.i lo,.i hi] (.bool (withinB n lo hi)):=by
 refine z10 15 Try.call65 Try.func65 rfl (by decide) fun J=>?_
 simp only [go_sem,St.start,Try.ntmps65,Try.results65]
 by_cases h:lo≤n
 ·repeat (first | refine nx ?_ | (refine z3 fun K hK=>?_;simp only [go_sem,h];apply hK;clear hK K))
  simp only [go_sem,withinB,h]
 ·repeat (first | refine nx ?_ | (refine z3 fun K hK=>?_;simp only [go_sem,h];apply hK;clear hK K))
  simp only [go_sem,withinB,h]
theorem z787 (n lo hi:Int):Fn Try.prog 71 [.i n,.i lo,.i hi] (.bool (withinB n lo hi)):=by
 refine z10 15 Try.call71 Try.func71 rfl (by decide) fun J=>?_
 simp only [go_sem,St.start,Try.ntmps71,Try.results71]
 by_cases h:lo≤n
 ·repeat (first | refine nx ?_ | (refine z3 fun K hK=>?_;simp only [go_sem,h,ge_iff_le];apply hK;clear hK K))
  simp only [go_sem,withinB,h]
 ·repeat (first | refine nx ?_ | (refine z3 fun K hK=>?_;simp only [go_sem,h,ge_iff_le];apply hK;clear hK K))
  simp only [go_sem,withinB,h]
theorem z869 (s:Span) (lo hi:Int):Fn Try.prog 67 [.agg s.row,.i lo,.i hi] (.bool (orderedB s lo hi)):=by
 refine z10 24 Try.call67 Try.func67 rfl (by decide) fun J=>?_
 simp only [go_sem,St.start,Try.ntmps67,Try.results67,Span.row]
 by_cases h:lo≤s.lo <;> by_cases h2:s.lo≤s.hi
 all_goals
  repeat (first | refine nx ?_ | (refine z3 fun K hK=>?_;simp only [go_sem,h,h2];apply hK;clear hK K))
  simp only [go_sem,orderedB,h,h2]
theorem z868 (s:Span) (lo hi:Int):Fn Try.prog 72 [.agg s.row,.i lo,.i hi] (.bool (orderedB s lo hi)):=by
 refine z10 24 Try.call72 Try.func72 rfl (by decide) fun J=>?_
 simp only [go_sem,St.start,Try.ntmps72,Try.results72,Span.row]
 by_cases h:lo≤s.lo <;> by_cases h2:s.lo≤s.hi
 all_goals
  repeat (first | refine nx ?_ | (refine z3 fun K hK=>?_;simp only [go_sem,h,h2,ge_iff_le];apply hK;clear hK K))
  simp only [go_sem,orderedB,h,h2]
theorem z906 (n:Net) (x:Int) (hn:0≤n.places∧n.places<2 ^ 62):Fn Try.prog 64 [.i x,.ptr n.cells 0] (.bool (withinB x 0 (n.places - 1))):=by
 refine z10 9 Try.call64 Try.func64 rfl (by decide) fun J=>?_
 simp only [go_sem,St.start,Try.ntmps64,Try.results64,Net.cells]
 have hw:IntKind.i64.wrap (n.places - 1)=n.places - 1:=z12 (by omega)
 repeat (first | refine nx ?_ | (refine z3 fun K hK=>?_;simp only [go_sem,hw];(repeat (first | (refine ⟨_,.lent (hf:=z788 _ _ _) (hd:=rfl) (hr:=rfl),?_⟩;simp only [go_sem,hw]) | (refine ⟨_,.given (hf:=z788 _ _ _) (hd:=rfl) (ha:=rfl),?_⟩;simp only [go_sem,hw])));apply hK;clear hK K))
 simp only [go_sem]
theorem z888 (n:Net) (x:Int) (hn:-(2 ^ 62)≤n.places∧n.places<2 ^ 62):Fn Try.prog 57 [.agg n.cells,.i x] (.bool (withinB x 0 (n.places - 1))):=by
 refine z10 10 Try.call57 Try.func57 rfl (by decide) fun J=>?_
 simp only [go_sem,St.start,Try.ntmps57,Try.results57,Net.cells]
 have hw:IntKind.i64.wrap (n.places - 1)=n.places - 1:=z12 (by omega)
 repeat (first | refine nx ?_ | (refine z3 fun K hK=>?_;simp only [go_sem,hw];(repeat (first | (refine ⟨_,.lent (hf:=z787 _ _ _) (hd:=rfl) (hr:=rfl),?_⟩;simp only [go_sem,hw]) | (refine ⟨_,.given (hf:=z787 _ _ _) (hd:=rfl) (ha:=rfl),?_⟩;simp only [go_sem,hw])));apply hK;clear hK K))
 simp only [go_sem]
theorem z887 (x:Int):Fn Try.prog 58 [.i x] (.bool (withinB x 0 2880)):=by
 refine z10 5 Try.call58 Try.func58 rfl (by decide) fun J=>?_
 simp only [go_sem,St.start,Try.ntmps58,Try.results58]
 repeat (first | refine nx ?_ | (refine z3 fun K hK=>?_;simp only [go_sem];(repeat (first | (refine ⟨_,.lent (hf:=z787 _ _ _) (hd:=rfl) (hr:=rfl),?_⟩;simp only [go_sem]) | (refine ⟨_,.given (hf:=z787 _ _ _) (hd:=rfl) (ha:=rfl),?_⟩;simp only [go_sem])));apply hK;clear hK K))
 simp only [go_sem]
theorem z927 (n:Net) (x:Int) (hn:n.paths.length<2 ^ 62):Fn Try.prog 33 [.agg n.cells,.i x] (.bool (withinB x 0 (n.paths.length - 1))):=by
 refine z10 11 Try.call33 Try.func33 rfl (by decide) fun J=>?_
 simp only [go_sem,St.start,Try.ntmps33,Try.results33,Net.cells]
 have hw:IntKind.i64.wrap ((n.paths.length:Int) - 1)=n.paths.length - 1:=z12 (by omega)
 repeat (first | refine nx ?_ | (refine z3 fun K hK=>?_;simp only [go_sem,hw];(repeat (first | (refine ⟨_,.lent (hf:=z787 _ _ _) (hd:=rfl) (hr:=rfl),?_⟩;simp only [go_sem,hw]) | (refine ⟨_,.given (hf:=z787 _ _ _) (hd:=rfl) (ha:=rfl),?_⟩;simp only [go_sem,hw])));apply hK;clear hK K))
 simp only [go_sem]
theorem z920 (s:Span) (n:DV):Fn Try.prog 66 [.agg s.row] (.bool (!orderedB s 0 2880)):=by
 refine z10 6 Try.call66 Try.func66 rfl (by decide) fun J=>?_
 simp only [go_sem,St.start,Try.ntmps66,Try.results66,Span.row]
 repeat (first | refine nx ?_ | (refine z3 fun K hK=>?_;simp only [go_sem];(repeat (first | (refine ⟨_,.lent (hf:=z869 s _ _) (hd:=rfl) (hr:=rfl),?_⟩;simp only [go_sem]) | (refine ⟨_,.given (hf:=z869 s _ _) (hd:=rfl) (ha:=rfl),?_⟩;simp only [go_sem])));apply hK;clear hK K))
 simp only [go_sem]
theorem z909 (s:Span):Fn Try.prog 43 [.agg s.row] (.i s.hi):=by
 refine z10 5 Try.call43 Try.func43 rfl (by decide) fun J=>?_
 simp only [go_sem,St.start,Try.ntmps43,Try.results43,Span.row]
 repeat (first | refine nx ?_ | (refine z3 fun K hK=>?_;simp only [go_sem];apply hK;clear hK K))
 simp only [go_sem]
theorem z921 (s:Span):Fn Try.prog 60 [.agg s.row] (.i s.lo):=by
 refine z10 5 Try.call60 Try.func60 rfl (by decide) fun J=>?_
 simp only [go_sem,St.start,Try.ntmps60,Try.results60,Span.row]
 repeat (first | refine nx ?_ | (refine z3 fun K hK=>?_;simp only [go_sem];apply hK;clear hK K))
 simp only [go_sem]
theorem z905 (lo hi:Int):Fn Try.prog 82 [.i lo,.i hi] (.agg [.i lo,.i hi]):=by
 refine z10 8 Try.call82 Try.func82 rfl (by decide) fun J=>?_
 simp only [go_sem,St.start,Try.ntmps82,Try.results82]
 repeat (first | refine nx ?_ | (refine z3 fun K hK=>?_;simp only [go_sem];apply hK;clear hK K))
 simp only [go_sem]
theorem z915 (n:Net) (p:Party) (i:Nat) (x:Path) (hx:n.paths[i]?=some x):Fn Try.prog 74 [.agg (walkCells n p),.i i] (.bool (decide (x.grade≤p.grade))):=by
 refine z10 16 Try.call74 Try.func74 rfl (by decide) fun J=>?_
 simp only [go_sem,St.start,Try.ntmps74,Try.results74,walkCells]
 repeat (first | refine nx ?_ | (refine z3 fun K hK=>?_;simp only [go_sem,hx,List.getElem?_map,Path.row];apply hK;clear hK K) | (refine z15 (by kernel_rfl) (by kernel_rfl) fun K hK=>?_;simp only [go_sem,hx,List.getElem?_map,Path.row];refine ⟨by kernel_rfl,hK _ ?_⟩;clear hK K))
 simp only [go_sem]
theorem z886 (t pace snow:Int) (n:Net) (p:Party):Fn Try.prog 88 [.i t,.i pace,.i snow,.ptr (walkCells n p) 0] (.i (timeW t pace snow p.load)):=by
 refine z10 21 Try.call88 Try.func88 rfl (by decide) fun J=>?_
 simp only [go_sem,St.start,Try.ntmps88,Try.results88,walkCells]
 repeat (first | refine nx ?_ | (refine z3 fun K hK=>?_;simp only [go_sem];apply hK;clear hK K))
 simp only [go_sem,timeW]
def enterF (opens:List Span) (t:Int):Int:=opens.foldl (fun f s=>if t≤s.hi then min f (max t s.lo) else f) 1073741824
end Go.Ab
namespace Go.Ab
open Go.RowKit Go.Proofs
def spanW (x:Path) (p:Party):Span:=⟨timeW x.time.lo p.pace.lo x.snow.lo p.load,timeW x.time.hi p.pace.hi x.snow.hi p.load⟩
theorem z870 (n:Net) (p:Party) (i:Nat) (x:Path) (hx:n.paths[i]?=some x):Fn Try.prog 51 [.agg (walkCells n p),.i i] (.agg (spanW x p).row):=by
 refine z10 39 Try.call51 Try.func51 rfl (by decide) fun J=>?_
 simp only [go_sem,St.start,Try.ntmps51,Try.results51,walkCells]
 repeat (first | refine nx ?_ | (refine z3 fun K hK=>?_;simp only [go_sem,hx,List.getElem?_map,Path.row,Span.row,spanW];(repeat (first | (refine ⟨_,.lent (hf:=z886 _ _ _ n p) (hd:=rfl) (hr:=rfl),?_⟩;simp only [go_sem,hx,List.getElem?_map,Path.row,Span.row,spanW]) | (refine ⟨_,.given (hf:=z886 _ _ _ n p) (hd:=rfl) (ha:=rfl),?_⟩;simp only [go_sem,hx,List.getElem?_map,Path.row,Span.row,spanW])));apply hK;clear hK K) | (refine z15 (by kernel_rfl) (by kernel_rfl) fun K hK=>?_;simp only [go_sem,hx,List.getElem?_map,Path.row,Span.row,spanW];(repeat (first | (refine ⟨_,.fn (hf:=z886 _ _ _ n p) (hd:=rfl) (hr:=.inl rfl),?_⟩;simp only [go_sem,hx,List.getElem?_map,Path.row,Span.row,spanW])));refine ⟨by kernel_rfl,hK _ ?_⟩;clear hK K))
 simp only [go_sem,hx,List.getElem?_map,Path.row,Span.row,spanW]
def idxFrom {α:Type} (q:α→Bool):List α→Nat→Int
 | [],_=>-1
 | x::xs,i=>if q x then (i:Int) else idxFrom q xs (i + 1)
theorem z67 {α:Type} (q:α→Bool):∀ (l:List α) (i:Nat),decide (idxFrom q l i ≥ 0)=l.any q
 | [],i=>by simp [idxFrom]
 | x::xs,i=>by
  simp only [idxFrom,List.any_cons]
  by_cases h:q x
  ·simp [h]
  ·simp [h,← z67 q xs (i + 1)]
theorem z132 (m:List (Option Blk)) (x:AV) (d:DV) (caps:List DV) (h:reify m deep x=some d):allSome ((x::caps.map AV.d).map (reify m deep))=some (d::caps):=by
 have:∀ l:List DV,allSome ((l.map AV.d).map (reify m deep))=some l:=by
  intro l
  induction l with
  | nil=>rfl
  | cons a l ih =>
   simp only [List.map_cons]
   rw [show reify m deep (AV.d a)=some a from rfl]
   simp only [allSome,ih,Option.map_some]
 simp only [List.map_cons,h,allSome]
 rw [this caps]
 rfl
theorem z138 {α:Type} {l:List α} {i:Nat} {x:α} (h:l[i]?=some x):l.drop i=x::l.drop (i + 1):=by
 obtain ⟨hlt,rfl⟩:=List.getElem?_eq_some_iff.1 h
 exact List.drop_eq_getElem_cons hlt
theorem z902 (xs:List Span) (g:Nat) (caps:List DV) (q:Span→Bool) (hq:∀ s ∈ xs,Fn Try.prog g (.agg s.row::caps) (.bool (q s))) (hl:xs.length<2 ^ 62):Fn Try.prog 91 [.sl (xs.map Span.row),.fn g caps] (.i (idxFrom q xs 0)):=by
 refine z10 19 Try.call91 Try.func91 rfl (by decide) fun J=>?_
 simp only [go_sem,St.start,Try.ntmps91,Try.results91]
 repeat (first | refine nx ?_ | (refine z3 fun K hK=>?_;simp only [go_sem];apply hK;clear hK K))
 refine z25 (fun (i:Nat)=>[(8,.d (.i i))]) (fun _=>[]) (fun i=>i≤xs.length∧idxFrom q xs 0=idxFrom q (xs.drop i) i) (fun i=>xs.length - i) 0 ?_ ⟨Nat.zero_le _,rfl⟩ ?_
 ·simp only [go_sem]
  refine weA ?_ ?_ <;> simp
 ·intro i ⟨hi,hq0⟩
  simp only [go_sem]
  repeat (first | refine nx ?_ | (refine z3 fun K hK=>?_;simp only [go_sem];apply hK;clear hK K))
  refine z5 rfl (fun hb=>?_) (fun hb=>?_)
  ·have hlt:i<xs.length:=by simpa using hb
   obtain ⟨s,hs⟩:∃ s,xs[i]?=some s:=⟨_,List.getElem?_eq_getElem hlt⟩
   have hw:IntKind.i64.wrap ((i:Int) + 1)=((i + 1:Nat):Int):=by rw [z12 (by omega)];simp
   rw [z138 hs,idxFrom] at hq0
   repeat (first | refine nx ?_ | (refine z3 fun K hK=>?_;simp only [go_sem];apply hK;clear hK K))
   refine z3 fun K hK=>?_
   simp only [go_sem,hs,List.getElem?_map,Span.row,hw]
   refine ⟨_,.lent (hf:=hq s (List.mem_of_getElem? hs)) (hd:=z132 _ _ _ _ rfl) (hr:=rfl),?_⟩
   simp only [go_sem]
   apply hK
   clear hK K
   refine z5 rfl (fun hc=>?_) (fun hc=>?_)
   ·rw [hc,if_pos rfl] at hq0
    repeat (first | refine nx ?_ | (refine z3 fun K hK=>?_;simp only [go_sem];apply hK;clear hK K))
    simp only [go_sem,hq0]
   ·rw [hc] at hq0
    repeat (first | refine nx ?_ | (refine z3 fun K hK=>?_;simp only [go_sem,hw];apply hK;clear hK K))
    refine ⟨rfl,i + 1,?_,⟨hlt,hq0⟩,by omega⟩
    refine weA ?_ ?_ <;> simp
  ·have he:i=xs.length:=by have:¬ i<xs.length:=by simpa using hb
                           omega
   subst he
   repeat (first | refine nx ?_ | (refine z3 fun K hK=>?_;simp only [go_sem];apply hK;clear hK K))
   simp only [go_sem,hq0,List.drop_length,idxFrom]
theorem z901 (xs:List (Path)) (g:Nat) (caps:List DV) (q:Path→Bool) (hq:∀ s ∈ xs,Fn Try.prog g (.agg s.row::caps) (.bool (q s))) (hl:xs.length<2 ^ 62):Fn Try.prog 92 [.sl (xs.map Path.row),.fn g caps] (.i (idxFrom q xs 0)):=by
 refine z10 19 Try.call92 Try.func92 rfl (by decide) fun J=>?_
 simp only [go_sem,St.start,Try.ntmps92,Try.results92]
 repeat (first | refine nx ?_ | (refine z3 fun K hK=>?_;simp only [go_sem];apply hK;clear hK K))
 refine z25 (fun (i:Nat)=>[(8,.d (.i i))]) (fun _=>[]) (fun i=>i≤xs.length∧idxFrom q xs 0=idxFrom q (xs.drop i) i) (fun i=>xs.length - i) 0 ?_ ⟨Nat.zero_le _,rfl⟩ ?_
 ·simp only [go_sem]
  refine weA ?_ ?_ <;> simp
 ·intro i ⟨hi,hq0⟩
  simp only [go_sem]
  repeat (first | refine nx ?_ | (refine z3 fun K hK=>?_;simp only [go_sem];apply hK;clear hK K))
  refine z5 rfl (fun hb=>?_) (fun hb=>?_)
  ·have hlt:i<xs.length:=by simpa using hb
   obtain ⟨s,hs⟩:∃ s,xs[i]?=some s:=⟨_,List.getElem?_eq_getElem hlt⟩
   have hw:IntKind.i64.wrap ((i:Int) + 1)=((i + 1:Nat):Int):=by rw [z12 (by omega)];simp
   rw [z138 hs,idxFrom] at hq0
   repeat (first | refine nx ?_ | (refine z3 fun K hK=>?_;simp only [go_sem];apply hK;clear hK K))
   refine z3 fun K hK=>?_
   simp only [go_sem,hs,List.getElem?_map,Path.row,hw]
   refine ⟨_,.lent (hf:=hq s (List.mem_of_getElem? hs)) (hd:=z132 _ _ _ _ rfl) (hr:=rfl),?_⟩
   simp only [go_sem]
   apply hK
   clear hK K
   refine z5 rfl (fun hc=>?_) (fun hc=>?_)
   ·rw [hc,if_pos rfl] at hq0
    repeat (first | refine nx ?_ | (refine z3 fun K hK=>?_;simp only [go_sem];apply hK;clear hK K))
    simp only [go_sem,hq0]
   ·rw [hc] at hq0
    repeat (first | refine nx ?_ | (refine z3 fun K hK=>?_;simp only [go_sem,hw];apply hK;clear hK K))
    refine ⟨rfl,i + 1,?_,⟨hlt,hq0⟩,by omega⟩
    refine weA ?_ ?_ <;> simp
  ·have he:i=xs.length:=by have:¬ i<xs.length:=by simpa using hb
                           omega
   subst he
   repeat (first | refine nx ?_ | (refine z3 fun K hK=>?_;simp only [go_sem];apply hK;clear hK K))
   simp only [go_sem,hq0,List.drop_length,idxFrom]
theorem z900 (xs:List (Int)) (g:Nat) (caps:List DV) (q:Int→Bool) (hq:∀ s ∈ xs,Fn Try.prog g (.i s::caps) (.bool (q s))) (hl:xs.length<2 ^ 62):Fn Try.prog 93 [.sl (xs.map (fun x=>[.i x])),.fn g caps] (.i (idxFrom q xs 0)):=by
 refine z10 19 Try.call93 Try.func93 rfl (by decide) fun J=>?_
 simp only [go_sem,St.start,Try.ntmps93,Try.results93]
 repeat (first | refine nx ?_ | (refine z3 fun K hK=>?_;simp only [go_sem];apply hK;clear hK K))
 refine z25 (fun (i:Nat)=>[(8,.d (.i i))]) (fun _=>[]) (fun i=>i≤xs.length∧idxFrom q xs 0=idxFrom q (xs.drop i) i) (fun i=>xs.length - i) 0 ?_ ⟨Nat.zero_le _,rfl⟩ ?_
 ·simp only [go_sem]
  refine weA ?_ ?_ <;> simp
 ·intro i ⟨hi,hq0⟩
  simp only [go_sem]
  repeat (first | refine nx ?_ | (refine z3 fun K hK=>?_;simp only [go_sem];apply hK;clear hK K))
  refine z5 rfl (fun hb=>?_) (fun hb=>?_)
  ·have hlt:i<xs.length:=by simpa using hb
   obtain ⟨s,hs⟩:∃ s,xs[i]?=some s:=⟨_,List.getElem?_eq_getElem hlt⟩
   have hw:IntKind.i64.wrap ((i:Int) + 1)=((i + 1:Nat):Int):=by rw [z12 (by omega)];simp
   rw [z138 hs,idxFrom] at hq0
   repeat (first | refine nx ?_ | (refine z3 fun K hK=>?_;simp only [go_sem];apply hK;clear hK K))
   refine z3 fun K hK=>?_
   simp only [go_sem,hs,List.getElem?_map,hw]
   refine ⟨_,.lent (hf:=hq s (List.mem_of_getElem? hs)) (hd:=z132 _ _ _ _ rfl) (hr:=rfl),?_⟩
   simp only [go_sem]
   apply hK
   clear hK K
   refine z5 rfl (fun hc=>?_) (fun hc=>?_)
   ·rw [hc,if_pos rfl] at hq0
    repeat (first | refine nx ?_ | (refine z3 fun K hK=>?_;simp only [go_sem];apply hK;clear hK K))
    simp only [go_sem,hq0]
   ·rw [hc] at hq0
    repeat (first | refine nx ?_ | (refine z3 fun K hK=>?_;simp only [go_sem,hw];apply hK;clear hK K))
    refine ⟨rfl,i + 1,?_,⟨hlt,hq0⟩,by omega⟩
    refine weA ?_ ?_ <;> simp
  ·have he:i=xs.length:=by have:¬ i<xs.length:=by simpa using hb
                           omega
   subst he
   repeat (first | refine nx ?_ | (refine z3 fun K hK=>?_;simp only [go_sem];apply hK;clear hK K))
   simp only [go_sem,hq0,List.drop_length,idxFrom]
theorem z926 (xs:List (List Int)) (g:Nat) (caps:List DV) (q:List Int→Bool) (hq:∀ s ∈ xs,Fn Try.prog g (.sl (s.map fun x=>[.i x])::caps) (.bool (q s))) (hl:xs.length<2 ^ 62):Fn Try.prog 44 [.sl (xs.map (fun l=>[.sl (l.map fun x=>[.i x])])),.fn g caps] (.i (idxFrom q xs 0)):=by
 refine z10 19 Try.call44 Try.func44 rfl (by decide) fun J=>?_
 simp only [go_sem,St.start,Try.ntmps44,Try.results44]
 repeat (first | refine nx ?_ | (refine z3 fun K hK=>?_;simp only [go_sem];apply hK;clear hK K))
 refine z25 (fun (i:Nat)=>[(8,.d (.i i))]) (fun _=>[]) (fun i=>i≤xs.length∧idxFrom q xs 0=idxFrom q (xs.drop i) i) (fun i=>xs.length - i) 0 ?_ ⟨Nat.zero_le _,rfl⟩ ?_
 ·simp only [go_sem]
  refine weA ?_ ?_ <;> simp
 ·intro i ⟨hi,hq0⟩
  simp only [go_sem]
  repeat (first | refine nx ?_ | (refine z3 fun K hK=>?_;simp only [go_sem];apply hK;clear hK K))
  refine z5 rfl (fun hb=>?_) (fun hb=>?_)
  ·have hlt:i<xs.length:=by simpa using hb
   obtain ⟨s,hs⟩:∃ s,xs[i]?=some s:=⟨_,List.getElem?_eq_getElem hlt⟩
   have hw:IntKind.i64.wrap ((i:Int) + 1)=((i + 1:Nat):Int):=by rw [z12 (by omega)];simp
   rw [z138 hs,idxFrom] at hq0
   repeat (first | refine nx ?_ | (refine z3 fun K hK=>?_;simp only [go_sem];apply hK;clear hK K))
   refine z3 fun K hK=>?_
   simp only [go_sem,hs,List.getElem?_map,hw]
   refine ⟨_,.lent (hf:=hq s (List.mem_of_getElem? hs)) (hd:=z132 _ _ _ _ rfl) (hr:=rfl),?_⟩
   simp only [go_sem]
   apply hK
   clear hK K
   refine z5 rfl (fun hc=>?_) (fun hc=>?_)
   ·rw [hc,if_pos rfl] at hq0
    repeat (first | refine nx ?_ | (refine z3 fun K hK=>?_;simp only [go_sem];apply hK;clear hK K))
    simp only [go_sem,hq0]
   ·rw [hc] at hq0
    repeat (first | refine nx ?_ | (refine z3 fun K hK=>?_;simp only [go_sem,hw];apply hK;clear hK K))
    refine ⟨rfl,i + 1,?_,⟨hlt,hq0⟩,by omega⟩
    refine weA ?_ ?_ <;> simp
  ·have he:i=xs.length:=by have:¬ i<xs.length:=by simpa using hb
                           omega
   subst he
   repeat (first | refine nx ?_ | (refine z3 fun K hK=>?_;simp only [go_sem];apply hK;clear hK K))
   simp only [go_sem,hq0,List.drop_length,idxFrom]
theorem z918 (xs:List (Span)) (g:Nat) (caps:List DV) (q:Span→Bool) (hq:∀ s ∈ xs,Fn Try.prog g (.agg s.row::caps) (.bool (q s))) (hl:xs.length<2 ^ 62):Fn Try.prog 69 [.sl (xs.map Span.row),.fn g caps] (.bool (xs.any q)):=by
 refine z10 9 Try.call69 Try.func69 rfl (by decide) fun J=>?_
 simp only [go_sem,St.start,Try.ntmps69,Try.results69]
 repeat (first | refine nx ?_ | (refine z3 fun K hK=>?_;simp only [go_sem];(repeat (first | (refine ⟨_,.lent (hf:=z902 xs g caps q hq hl) (hd:=rfl) (hr:=rfl),?_⟩;simp only [go_sem]) | (refine ⟨_,.given (hf:=z902 xs g caps q hq hl) (hd:=rfl) (ha:=rfl),?_⟩;simp only [go_sem])));apply hK;clear hK K))
 simp only [go_sem,z67]
theorem z917 (xs:List (Path)) (g:Nat) (caps:List DV) (q:Path→Bool) (hq:∀ s ∈ xs,Fn Try.prog g (.agg s.row::caps) (.bool (q s))) (hl:xs.length<2 ^ 62):Fn Try.prog 70 [.sl (xs.map Path.row),.fn g caps] (.bool (xs.any q)):=by
 refine z10 9 Try.call70 Try.func70 rfl (by decide) fun J=>?_
 simp only [go_sem,St.start,Try.ntmps70,Try.results70]
 repeat (first | refine nx ?_ | (refine z3 fun K hK=>?_;simp only [go_sem];(repeat (first | (refine ⟨_,.lent (hf:=z901 xs g caps q hq hl) (hd:=rfl) (hr:=rfl),?_⟩;simp only [go_sem]) | (refine ⟨_,.given (hf:=z901 xs g caps q hq hl) (hd:=rfl) (ha:=rfl),?_⟩;simp only [go_sem])));apply hK;clear hK K))
 simp only [go_sem,z67]
theorem z904 (xs:List (Int)) (g:Nat) (caps:List DV) (q:Int→Bool) (hq:∀ s ∈ xs,Fn Try.prog g (.i s::caps) (.bool (q s))) (hl:xs.length<2 ^ 62):Fn Try.prog 83 [.sl (xs.map fun x=>[.i x]),.fn g caps] (.bool (xs.any q)):=by
 refine z10 9 Try.call83 Try.func83 rfl (by decide) fun J=>?_
 simp only [go_sem,St.start,Try.ntmps83,Try.results83]
 repeat (first | refine nx ?_ | (refine z3 fun K hK=>?_;simp only [go_sem];(repeat (first | (refine ⟨_,.lent (hf:=z900 xs g caps q hq hl) (hd:=rfl) (hr:=rfl),?_⟩;simp only [go_sem]) | (refine ⟨_,.given (hf:=z900 xs g caps q hq hl) (hd:=rfl) (ha:=rfl),?_⟩;simp only [go_sem])));apply hK;clear hK K))
 simp only [go_sem,z67]
end Go.Ab
namespace Go.Ab
open Go.RowKit Go.Proofs
def latestF (opens:List Span) (b:Int):Int:=opens.foldl (fun last s=>if s.lo≤b then max last (min s.hi b) else last) (-1)
theorem z908 (n:Net) (p:Party) (i:Nat) (x:Path) (b:Int) (hx:n.paths[i]?=some x) (hl:x.opens.length<2 ^ 62):Fn Try.prog 49 [.agg (walkCells n p),.i i,.i b] (.i (latestF x.opens (wr (b - (spanW x p).hi)))):=by
 refine z10 40 Try.call49 Try.func49 rfl (by decide) fun J=>?_
 simp only [go_sem,St.start,Try.ntmps49,Try.results49,walkCells]
 repeat (first | refine nx ?_ | (refine z3 fun K hK=>?_;simp only [go_sem,hx,List.getElem?_map,Path.row,Span.row];(repeat (first | (refine ⟨_,.lent (hf:=z870 n p i x hx) (hd:=rfl) (hr:=rfl),?_⟩;simp only [go_sem,hx,List.getElem?_map,Path.row,Span.row]) | (refine ⟨_,.given (hf:=z870 n p i x hx) (hd:=rfl) (ha:=rfl),?_⟩;simp only [go_sem,hx,List.getElem?_map,Path.row,Span.row])));apply hK;clear hK K))
 refine z25 (fun (j:Nat)=>[(7,.d (.i (latestF (x.opens.take j) (wr (b - (spanW x p).hi))))),(24,.d (.i j))]) (fun _=>[]) (fun j=>j≤x.opens.length) (fun j=>x.opens.length - j) 0 ?_ (Nat.zero_le _) ?_
 ·simp only [go_sem]
  refine weA ?_ ?_ <;> simp
  rfl
 ·intro j hj
  simp only [go_sem]
  repeat (first | refine nx ?_ | (refine z3 fun K hK=>?_;simp only [go_sem];apply hK;clear hK K))
  refine z5 rfl (fun hb=>?_) (fun hb=>?_)
  ·have hlt:j<x.opens.length:=by simpa using hb
   obtain ⟨s,hs⟩:∃ s,x.opens[j]?=some s:=⟨_,List.getElem?_eq_getElem hlt⟩
   have hw:IntKind.i64.wrap ((j:Int) + 1)=((j + 1:Nat):Int):=by rw [z12 (by omega)];simp
   have hn:latestF (x.opens.take (j + 1)) (wr (b - (spanW x p).hi))=if s.lo≤wr (b - (spanW x p).hi) then max (latestF (x.opens.take j) (wr (b - (spanW x p).hi))) (min s.hi (wr (b - (spanW x p).hi))) else latestF (x.opens.take j) (wr (b - (spanW x p).hi)):=z40 _ _ _ _ _ hs
   repeat (first | refine nx ?_ | (refine z3 fun K hK=>?_;simp only [go_sem,hs,List.getElem?_map,Span.row,hw];apply hK;clear hK K))
   refine z5 rfl (fun hc=>?_) (fun hc=>?_)
   ·have hc:s.lo≤wr (b - (spanW x p).hi):=by simpa using hc
    repeat (first | refine nx ?_ | (refine z3 fun K hK=>?_;simp only [go_sem,hs,List.getElem?_map,Span.row,hw];apply hK;clear hK K))
    refine ⟨rfl,j + 1,?_,hlt,by omega⟩
    rw [hn,if_pos hc]
    refine weA ?_ ?_ <;> simp
   ·have hc:¬ s.lo≤wr (b - (spanW x p).hi):=by simpa using hc
    repeat (first | refine nx ?_ | (refine z3 fun K hK=>?_;simp only [go_sem,hs,List.getElem?_map,Span.row,hw];apply hK;clear hK K))
    refine ⟨rfl,j + 1,?_,hlt,by omega⟩
    rw [hn,if_neg hc]
    refine weA ?_ ?_ <;> simp
  ·have he:j=x.opens.length:=by have:¬ j<x.opens.length:=by simpa using hb
                                omega
   subst he
   repeat (first | refine nx ?_ | (refine z3 fun K hK=>?_;simp only [go_sem];apply hK;clear hK K))
   simp only [go_sem,List.take_length]
def arriveF (opens:List Span) (t time:Int):Int:=if wr (enterF opens t + time) > 2880 then 1073741824 else wr (enterF opens t + time)
theorem z889 (n:Net) (p:Party) (i:Nat) (x:Path) (t time:Int) (hx:n.paths[i]?=some x) (hl:x.opens.length<2 ^ 62):Fn Try.prog 50 [.agg (walkCells n p),.i i,.i t,.i time] (.i (arriveF x.opens t time)):=by
 refine z10 42 Try.call50 Try.func50 rfl (by decide) fun J=>?_
 simp only [go_sem,St.start,Try.ntmps50,Try.results50,walkCells]
 repeat (first | refine nx ?_ | (refine z3 fun K hK=>?_;simp only [go_sem,hx,List.getElem?_map,Path.row];apply hK;clear hK K))
 refine z25 (fun (j:Nat)=>[(9,.d (.i (enterF (x.opens.take j) t))),(20,.d (.i j))]) (fun _=>[]) (fun j=>j≤x.opens.length) (fun j=>x.opens.length - j) 0 ?_ (Nat.zero_le _) ?_
 ·simp only [go_sem]
  refine weA ?_ ?_ <;> simp
  rfl
 ·intro j hj
  simp only [go_sem]
  repeat (first | refine nx ?_ | (refine z3 fun K hK=>?_;simp only [go_sem];apply hK;clear hK K))
  refine z5 rfl (fun hb=>?_) (fun hb=>?_)
  ·have hlt:j<x.opens.length:=by simpa using hb
   obtain ⟨s,hs⟩:∃ s,x.opens[j]?=some s:=⟨_,List.getElem?_eq_getElem hlt⟩
   have hw:IntKind.i64.wrap ((j:Int) + 1)=((j + 1:Nat):Int):=by rw [z12 (by omega)];simp
   have hn:enterF (x.opens.take (j + 1)) t=if t≤s.hi then min (enterF (x.opens.take j) t) (max t s.lo) else enterF (x.opens.take j) t:=z40 _ _ _ _ _ hs
   repeat (first | refine nx ?_ | (refine z3 fun K hK=>?_;simp only [go_sem,hs,List.getElem?_map,Span.row,hw];apply hK;clear hK K))
   refine z5 rfl (fun hc=>?_) (fun hc=>?_)
   ·have hc:t≤s.hi:=by simpa using hc
    repeat (first | refine nx ?_ | (refine z3 fun K hK=>?_;simp only [go_sem,hs,List.getElem?_map,Span.row,hw];apply hK;clear hK K))
    refine ⟨rfl,j + 1,?_,hlt,by omega⟩
    rw [hn,if_pos hc]
    refine weA ?_ ?_ <;> simp
   ·have hc:¬ t≤s.hi:=by simpa using hc
    repeat (first | refine nx ?_ | (refine z3 fun K hK=>?_;simp only [go_sem,hs,List.getElem?_map,Span.row,hw];apply hK;clear hK K))
    refine ⟨rfl,j + 1,?_,hlt,by omega⟩
    rw [hn,if_neg hc]
    refine weA ?_ ?_ <;> simp
  ·have he:j=x.opens.length:=by have:¬ j<x.opens.length:=by simpa using hb
                                omega
   subst he
   repeat (first | refine nx ?_ | (refine z3 fun K hK=>?_;simp only [go_sem,List.take_length];apply hK;clear hK K))
   refine z5 rfl (fun hc=>?_) (fun hc=>?_)
   ·have hc:wr (enterF x.opens t + time) > 2880:=by simpa using hc
    repeat (first | refine nx ?_ | (refine z3 fun K hK=>?_;simp only [go_sem,List.take_length];apply hK;clear hK K))
    simp only [go_sem,arriveF,hc]
   ·have hc:¬ wr (enterF x.opens t + time) > 2880:=by simpa using hc
    repeat (first | refine nx ?_ | (refine z3 fun K hK=>?_;simp only [go_sem,List.take_length];apply hK;clear hK K))
    simp only [go_sem,arriveF,hc]
def stepF (x:Path) (p:Party) (t:Int) (high:Bool):Int :=
 if enterF x.opens t ≥ 1073741824 then 1073741824 else
  let a:=wr (enterF x.opens t + if high then (spanW x p).hi else (spanW x p).lo)
  if a > 2880 then 1073741824 else a
end Go.Ab
namespace Go.Ab
open Go.RowKit Go.Proofs
def waysFrom (p:Party) (but:Int):List Path→Nat→List (Nat × Path)
 | [],_=>[]
 | x::xs,i=>if (i:Int)≠but∧x.grade≤p.grade then (i,x)::waysFrom p but xs (i + 1) else waysFrom p but xs (i + 1)
def waysL (n:Net) (p:Party) (but:Int):List (Nat × Path):=waysFrom p but n.paths 0
def wayRow (x:Nat × Path):List DV:=[.i x.1,.agg x.2.row]
theorem z842 (n:Net) (p:Party) (but:Int):Fn Try.prog 48 [.agg (walkCells n p),.i but] (.fn 87 [.ptr (walkCells n p) 0,.ptr [.i but] 0]):=by
 refine z10 6 Try.call48 Try.func48 rfl (by decide) fun J=>?_
 simp only [go_sem,St.start,Try.ntmps48,Try.results48,walkCells]
 repeat (first | refine nx ?_ | (refine z3 fun K hK=>?_;simp only [go_sem];apply hK;clear hK K))
 simp only [go_sem,walkCells]
theorem z453 (n:Net) (p:Party) (but:Int) (hl:n.paths.length<2 ^ 62):Iter Try.prog 87 [.ptr (walkCells n p) 0,.ptr [.i but] 0] ((waysL n p but).map wayRow):=by
 refine z764 31 Try.call87 Try.func87 rfl rfl fun l J B hS hG=>?_
 simp only [go_sem,St.start,Try.ntmps87,walkCells]
 repeat (first | refine nx ?_ | (refine z3 fun K hK=>?_;simp only [go_sem];apply hK;clear hK K))
 refine z491 (fun (j:Nat)=>[(10,.d (.i j))]) (fun _=>[]) (fun k j=>j≤n.paths.length∧∃ kk,k=some kk∧kk≤(waysL n p but).length∧(waysL n p but).drop kk=waysFrom p but (n.paths.drop j) j) (fun j=>n.paths.length - j) 0 ?_ ⟨Nat.zero_le _,0,rfl,Nat.zero_le _,rfl⟩ ?_
 ·simp only [go_sem]
  refine weA ?_ ?_ <;> simp
 ·rintro k j ⟨hj,kk,rfl,hkk,hd⟩
  simp only [go_sem]
  repeat (first | refine nx ?_ | (refine z3 fun K hK=>?_;simp only [go_sem];apply hK;clear hK K))
  refine z5 rfl (fun hb=>?_) (fun hb=>?_)
  ·have hlt:j<n.paths.length:=by simpa using hb
   obtain ⟨x,hx⟩:∃ x,n.paths[j]?=some x:=⟨_,List.getElem?_eq_getElem hlt⟩
   have hw:IntKind.i64.wrap ((j:Int) + 1)=((j + 1:Nat):Int):=by rw [z12 (by omega)];simp
   rw [z138 hx,waysFrom] at hd
   have h74:=z915 n p j x hx
   repeat (first | refine nx ?_ | (refine z3 fun K hK=>?_;simp only [go_sem,hx,List.getElem?_map,Path.row];apply hK;clear hK K))
   refine z318 hS hG fun K hK=>?_
   by_cases hbut:(j:Int)=but
   ·have hbe:((j:Int) != but)=false:=by simp [hbut]
    rw [if_neg (by simp [hbut])] at hd
    simp only [go_sem,hbe]
    refine hK _ _ ?_
    clear hK K
    refine z4 rfl ?_
    repeat (first | refine nx ?_ | (refine z3 fun K hK=>?_;simp only [go_sem,hw];apply hK;clear hK K))
    refine ⟨j + 1,?_,⟨hlt,kk,rfl,hkk,hd⟩,by omega⟩
    refine weA ?_ ?_ <;> simp
   ·have hbe:((j:Int) != but)=true:=by simpa using hbut
    simp only [go_sem,hbe]
    refine ⟨_,.lent (hf:=h74) (hd:=rfl) (hr:=rfl),?_⟩
    by_cases hg:x.grade≤p.grade
    ·rw [if_pos ⟨hbut,hg⟩] at hd
     have hkl:kk<(waysL n p but).length:=by
      rcases Nat.lt_or_ge kk (waysL n p but).length with h | h
      ·exact h
      ·rw [List.drop_eq_nil_of_le h] at hd;cases hd
     have hget:(waysL n p but)[kk]?=some (j,x):=by
      have:=congrArg (fun l=>l[0]?) hd
      simpa using this
     have hd2:(waysL n p but).drop (kk + 1)=waysFrom p but (n.paths.drop (j + 1)) (j + 1):=by
      have:=congrArg (List.drop 1) hd
      simpa [Nat.add_comm] using this
     simp only [go_sem,hg]
     refine ⟨rfl,kk,wayRow (j,x),rfl,rfl,by rw [List.getElem?_map,hget];rfl,?_,?_⟩
     ·simp only [go_sem]
      refine hK _ _ ?_
      clear hK K
      refine z4 rfl ?_
      repeat (first | refine nx ?_ | (refine z3 fun K hK=>?_;simp only [go_sem,hw];apply hK;clear hK K))
      refine ⟨j + 1,?_,⟨hlt,kk + 1,rfl,hkl,hd2⟩,by omega⟩
      refine weA ?_ ?_ <;> simp
     ·simp only [go_sem]
      refine hK _ _ ?_
      clear hK K
      refine z7 rfl ?_
      repeat (first | refine nx ?_ | (refine z3 fun K hK=>?_;simp only [go_sem];apply hK;clear hK K))
      exact ⟨trivial,.inr rfl⟩
    ·rw [if_neg (by simp [hg])] at hd
     simp only [go_sem,hg]
     refine hK _ _ ?_
     clear hK K
     refine z4 rfl ?_
     repeat (first | refine nx ?_ | (refine z3 fun K hK=>?_;simp only [go_sem,hw];apply hK;clear hK K))
     refine ⟨j + 1,?_,⟨hlt,kk,rfl,hkk,hd⟩,by omega⟩
     refine weA ?_ ?_ <;> simp
  ·have he:j=n.paths.length:=by have:¬ j<n.paths.length:=by simpa using hb
                                omega
   subst he
   repeat (first | refine nx ?_ | (refine z3 fun K hK=>?_;simp only [go_sem];apply hK;clear hK K))
   refine ⟨trivial,.inl ?_⟩
   rw [List.drop_length,waysFrom,List.drop_eq_nil_iff] at hd
   simp only [List.length_map,Option.some.injEq]
   omega
end Go.Ab
namespace Go.Ab
open Go.RowKit Go.Proofs
theorem z821 (m:Nat) (h:m<2 ^ 32):bAnd .u64 (m:Int) 4294967295=(m:Int):=by
 have h1:(BitVec.ofInt 64 (m:Int) &&& BitVec.ofInt 64 4294967295).toNat=m:=by
  rw [BitVec.toNat_and]
  have e1:(BitVec.ofInt 64 (m:Int)).toNat=m:=by simp [BitVec.toNat_ofInt];omega
  have e2:(BitVec.ofInt 64 4294967295).toNat=2 ^ 32 - 1:=by decide
  rw [e1,e2,Nat.and_two_pow_sub_one_eq_mod,Nat.mod_eq_of_lt h]
 show IntKind.u64.wrap ((BitVec.ofInt 64 (m:Int) &&& BitVec.ofInt 64 4294967295).toNat:Int)=(m:Int)
 rw [h1,IntKind.wrap_u64]
 omega
theorem z603 (m:Nat) (h:m<2 ^ 63):IntKind.u64.wrap (m:Int)=(m:Int):=by rw [IntKind.wrap_u64];omega
theorem z899 (m:Nat) (h:m<2 ^ 32):Fn Try.prog 95 [.int .u64 1,.int .u64 m] (.tup [.int .u64 0,.int .u64 m]):=by
 refine z10 51 Try.call95 Try.func95 rfl (by decide) fun J=>?_
 simp only [go_sem,St.start,Try.ntmps95,Try.results95]
 have h1:bAnd .u64 1 4294967295=1:=by decide
 have h2:bAnd .u64 (m:Int) 4294967295=m:=z821 m h
 have h3:IntKind.u64.wrap (m:Int)=m:=z603 m (by omega)
 have h4:bShr .u64 (m:Int) 32=0:=by
  show Int.fdiv (m:Int) 4294967296=0
  rw [Int.fdiv_eq_ediv_of_nonneg _ (by omega)]
  omega
 have h5:bShr .u64 1 32=0:=by decide
 have h6:bShr .u64 0 32=0:=by decide
 have h7:IntKind.u64.wrap (0:Int)=0:=by decide
 have h8:bAnd .u64 0 4294967295=0:=by decide
 repeat (first | refine nx ?_ | (refine z3 fun K hK=>?_;simp only [go_sem,h1,h2,h3,h4,h5,h6,h7,h8,Int.one_mul,Int.mul_one,Int.zero_mul,Int.mul_zero,Int.add_zero,Int.zero_add];apply hK;clear hK K))
 simp only [go_sem]
theorem z903 (m:Nat) (h:m<2 ^ 32):Fn Try.prog 86 [.int .u64 1,.int .u64 m] (.tup [.int .u64 0,.int .u64 m]):=by
 refine z10 30 Try.call86 Try.func86 rfl (by decide) fun J=>?_
 simp only [go_sem,St.start,Try.ntmps86,Try.results86]
 repeat (first | refine nx ?_ | (refine z3 fun K hK=>?_;simp only [go_sem];apply hK;clear hK K))
 refine z4 rfl ?_
 repeat (first | refine nx ?_ | (refine z3 fun K hK=>?_;simp only [go_sem];(repeat (first | (refine ⟨_,.lent (hf:=z899 m h) (hd:=rfl) (hr:=rfl),?_⟩;simp only [go_sem]) | (refine ⟨_,.given (hf:=z899 m h) (hd:=rfl) (ha:=rfl),?_⟩;simp only [go_sem])));apply hK;clear hK K))
 simp only [go_sem]
def filled (c:Int) (m i:Nat):List (List DV):=List.replicate i [.i c]++List.replicate (m - i) [.i 0]
theorem z707 (c:Int) (m i:Nat) (h:i≤m):(filled c m i).length=m:=by simp [filled];omega
theorem z160 (c:Int) (m i:Nat):(filled c m i).take i=List.replicate i [.i c]:=by simp [filled,List.take_append]
theorem z592 (c:Int) (m i k:Nat):(filled c m i).drop (i + k)=List.replicate (m - (i + k)) [.i 0]:=by
 simp only [filled,List.drop_append,List.length_replicate,List.drop_replicate]
 rw [show i - (i + k)=0 by omega,show i + k - i=k by omega,show m - i - k=m - (i + k) by omega]
 rfl
theorem z590 (c:Int) (m i k:Nat) (hk:k≤i):(filled c m i).take i++((List.replicate i [DV.i c]).take k++(filled c m i).drop (i + k))=filled c m (i + k):=by
 rw [z160,z592,List.take_replicate,show min k i=k by omega,← List.append_assoc,List.replicate_append_replicate]
 rfl
theorem z591 (c:Int) (m:Nat):List.take (min 1 m) [[DV.i c]]++List.drop (min 1 m) (List.replicate m [DV.i 0])=filled c m (min 1 m):=by
 rcases Nat.eq_zero_or_pos m with h | h
 ·subst h;rfl
 ·rw [show min 1 m=1 by omega]
  simp [filled]
attribute [go_sem] opCopyA
theorem z890 (c:Int) (m:Nat) (h:m<2 ^ 30):FnS Try.prog 47 [.sl [[.i c]],.i m] 3 1 (List.replicate m [.i c]):=by
 refine z215 48 Try.call47 Try.func47 rfl (by decide) fun J=>?_
 simp only [go_sem,St.start,Try.ntmps47,Try.results47]
 have h1:¬ ((m:Int)<0):=by omega
 have h2:IntKind.u64.wrap (m:Int)=m:=z603 m (by omega)
 have h3:IntKind.i64.wrap (m:Int)=m:=z12 (by omega)
 have h4:¬ (9223372036854775807<(m:Int)):=by omega
 have h5:IntKind.u64.wrap (1:Int)=1:=by decide
 have h6:(m:Int)≤2 ^ 40:=by omega
 repeat (first | refine nx ?_ | (refine z3 fun K hK=>?_;simp only [go_sem,h1];apply hK;clear hK K))
 refine z4 rfl ?_
 repeat (first | refine nx ?_ | (refine z3 fun K hK=>?_;simp only [go_sem,h2,h5,h4,gt_iff_lt,Int.lt_irrefl];(repeat (first | (refine ⟨_,.lent (hf:=z903 m (by omega)) (hd:=rfl) (hr:=rfl),?_⟩;simp only [go_sem,h2,h5,h4,gt_iff_lt,Int.lt_irrefl]) | (refine ⟨_,.given (hf:=z903 m (by omega)) (hd:=rfl) (ha:=rfl),?_⟩;simp only [go_sem,h2,h5,h4,gt_iff_lt,Int.lt_irrefl])));apply hK;clear hK K))
 refine z4 rfl ?_
 have h7:(m:Int)≤1099511627776:=by omega
 repeat (first | refine nx ?_ | (refine z3 fun K hK=>?_;simp only [go_sem,h3,h7,h1];apply hK;clear hK K))
 refine z25 (fun (i:Nat)=>[(7,.own 30),(30,.own 30),(31,.own 30),(8,.d (.i i))]) (fun i=>[(30,some (.arr 3 1 (filled c m i)))]) (fun i=>i≤m∧(i=0→m=0)) (fun i=>m - i) (min 1 m) ?_ (by omega) ?_
 ·simp only [go_sem]
  rw [show List.take (min 1 m) [[DV.i c]]++List.drop (min 1 m) (List.replicate m [DV.int IntKind.i64 0])=filled c m (min 1 m) from z591 c m]
  refine weA ?_ ?_ <;> simp
 ·intro i ⟨hi,hi0⟩
  have hl:=z707 c m i hi
  simp only [go_sem]
  repeat (first | refine nx ?_ | (refine z3 fun K hK=>?_;simp only [go_sem,hl];apply hK;clear hK K))
  refine z5 rfl (fun hb=>?_) (fun hb=>?_)
  ·have hlt:i<m:=by simpa using hb
   have e1:(i:Int)≤(m:Int):=by omega
   have e2:i + (m - i)≤m:=by omega
   have e3:i≤m:=hi
   have e4:min i (m - i)≤i:=by omega
   have hs:=z590 c m i (min i (m - i)) e4
   have hw:IntKind.i64.wrap ((i:Int) + ((min i (m - i):Nat):Int))=((i + min i (m - i):Nat):Int):=by rw [z12 (by omega)];simp
   rw [z160] at hs
   have e5:∀ k,headIs 1 (List.replicate k [DV.i c])=true:=fun k=>by cases k <;> rfl
   repeat (first | refine nx ?_ | (refine z3 fun K hK=>?_;simp only [go_sem];apply hK;clear hK K))
   refine z15 (by kernel_rfl) (by kernel_rfl) fun K hK=>?_
   simp only [go_sem,hl,e1,e2,e3,hw,z160,Nat.sub_zero,List.drop_zero,hs]
   refine ⟨e5 i,by kernel_rfl,hK _ ?_⟩
   clear hK K
   repeat (first | refine nx ?_ | (refine z3 fun K hK=>?_;simp only [go_sem];apply hK;clear hK K))
   refine ⟨rfl,i + min i (m - i),?_,by omega,by omega⟩
   refine weA ?_ ?_ <;> simp
  ·have he:i=m:=by have:¬ i<m:=by simpa using hb
                   omega
   subst he
   repeat (first | refine nx ?_ | (refine z3 fun K hK=>?_;simp only [go_sem];apply hK;clear hK K))
   simp only [go_sem,filled,Nat.sub_self,List.replicate]
end Go.Ab
namespace Go.Ab
open Go.RowKit Go.Proofs
def intRows (l:List Int):List (List DV):=l.map fun x=>[.i x]
def getI (l:List Int) (i:Int):Int:=l.getD i.toNat 0
theorem z36 {l:List Int} {i:Int} (h0:0≤i) (h1:i.toNat<l.length):(intRows l)[i.toNat]?=some [.i (getI l i)]:=by
 simp [intRows,getI,h1]
theorem z21 (l:List Int):(intRows l).length=l.length:=by simp [intRows]
theorem z73 (l:List Int):rowsFlat (intRows l):=by
 intro r hr d hd
 obtain ⟨x,_,rfl⟩:=List.mem_map.1 hr
 simp at hd;subst hd;rfl
theorem z42 (l:List Int) (k:Nat) (x:Int):(intRows l).set k [.i x]=intRows (l.set k x):=by simp [intRows,List.map_set]
theorem z62 (m:Nat) (c:Int):List.replicate m [DV.i c]=intRows (List.replicate m c):=by simp [intRows]
structure Net.Ok (n:Net):Prop where
 places:0≤n.places∧n.places<2 ^ 20
 paths:n.paths.length<2 ^ 20
 frm:∀ x ∈ n.paths,0≤x.frm∧x.frm<n.places
 to:∀ x ∈ n.paths,0≤x.to∧x.to<n.places
 opens:∀ x ∈ n.paths,x.opens.length<2 ^ 20
theorem z89 (p:Party) (but:Int):∀ (l:List Path) (i:Nat) (w:Nat × Path),w ∈ waysFrom p but l i→i≤w.1∧l[w.1 - i]?=some w.2∧w.2.grade≤p.grade∧(w.1:Int)≠but
 | [],_,_,h=>by simp [waysFrom] at h
 | x::xs,i,w,h=>by
  unfold waysFrom at h
  split at h
  ·rename_i hc
   rcases List.mem_cons.1 h with rfl | h
   ·exact ⟨Nat.le_refl _,by simp,hc.2,hc.1⟩
   ·obtain ⟨h1,h2,h3,h4⟩:=z89 p but xs (i + 1) w h
    exact ⟨by omega,by rw [show w.1 - i=(w.1 - (i + 1)) + 1 by omega];simpa using h2,h3,h4⟩
  ·obtain ⟨h1,h2,h3,h4⟩:=z89 p but xs (i + 1) w h
   exact ⟨by omega,by rw [show w.1 - i=(w.1 - (i + 1)) + 1 by omega];simpa using h2,h3,h4⟩
theorem z70 {n:Net} {p:Party} {but:Int} {w:Nat × Path} (h:w ∈ waysL n p but):n.paths[w.1]?=some w.2:=by
 have:=(z89 p but n.paths 0 w h).2.1
 simpa using this
def relaxD (p:Party) (a:List Int × Bool) (w:Nat × Path):List Int × Bool :=
 let t:=latestF w.2.opens (wr (getI a.1 w.2.to - (spanW w.2 p).hi))
 if t > getI a.1 w.2.frm then (a.1.set w.2.frm.toNat t,true) else a
def passD (n:Net) (p:Party) (l:List Int):List Int × Bool:=(waysL n p (-1)).foldl (relaxD p) (l,false)
theorem z299 (p:Party) (a:List Int × Bool) (w:Nat × Path):(relaxD p a w).1.length=a.1.length:=by
 unfold relaxD;dsimp only;split <;> simp
theorem z119 (p:Party):∀ (ws:List (Nat × Path)) (a:List Int × Bool),(ws.foldl (relaxD p) a).1.length=a.1.length
 | [],_=>rfl
 | w::ws,a=>by rw [List.foldl_cons,z119 p ws,z299]
end Go.Ab
namespace Go.Ab
open Go.RowKit Go.Proofs
def riseM (l:List Int):Nat:=(l.map fun x=>(2881 - x).toNat).sum
theorem z434:∀ (l:List Int) (k:Nat) (t x:Int),l[k]?=some x→x<t→t≤2880→riseM (l.set k t)<riseM l
 | [],_,_,_,h,_,_=>by simp at h
 | a::l,0,t,x,h,h1,h2=>by
  simp at h;subst h
  simp only [riseM,List.set_cons_zero,List.map_cons,List.sum_cons]
  omega
 | a::l,k + 1,t,x,h,h1,h2=>by
  have:=z434 l k t x (by simpa using h) h1 h2
  simp only [riseM,List.set_cons_succ,List.map_cons,List.sum_cons] at this ⊢
  omega
theorem z310 (b:Int):∀ (opens:List Span) (last:Int),last≤2880→(∀ s ∈ opens,s.hi≤2880)→opens.foldl (fun last s=>if s.lo≤b then max last (min s.hi b) else last) last≤2880
 | [],last,h,_=>h
 | s::opens,last,h,hs=>by
  rw [List.foldl_cons]
  refine z310 b opens _ ?_ (fun s' h'=>hs s' (List.mem_cons_of_mem _ h'))
  have:=hs s (List.mem_cons_self ..)
  split <;> omega
def fixD (n:Net) (p:Party):Nat→List Int→List Int
 | 0,l=>l
 | k + 1,l=>if (passD n p l).2 then fixD n p k (passD n p l).1 else (passD n p l).1
def deadlines0 (n:Net) (to b:Int):List Int:=(List.replicate n.places.toNat (-1)).set to.toNat b
def deadlinesL (n:Net) (p:Party) (to b:Int):List Int:=fixD n p (riseM (deadlines0 n to b) + 1) (deadlines0 n to b)
theorem z772 (p:Party):∀ (ws:List (Nat × Path)) (a:List Int × Bool),(∀ w ∈ ws,0≤w.2.frm∧w.2.frm.toNat<a.1.length∧∀ s ∈ w.2.opens,s.hi≤2880) →
  riseM (ws.foldl (relaxD p) a).1≤riseM a.1∧(a.2=false→(ws.foldl (relaxD p) a).2=true→riseM (ws.foldl (relaxD p) a).1<riseM a.1)
 | [],a,_=>⟨Nat.le_refl _,fun h1 h2=>by simp only [List.foldl_nil] at h2;rw [h1] at h2;cases h2⟩
 | w::ws,a,h=>by
  obtain ⟨h1,h2,h3⟩:=h w (List.mem_cons_self ..)
  have ih:=z772 p ws (relaxD p a w) (fun w' h'=>by rw [z299];exact h w' (List.mem_cons_of_mem _ h'))
  rw [List.foldl_cons]
  by_cases hc:latestF w.2.opens (wr (getI a.1 w.2.to - (spanW w.2 p).hi)) > getI a.1 w.2.frm
  ·have he:relaxD p a w=(a.1.set w.2.frm.toNat (latestF w.2.opens (wr (getI a.1 w.2.to - (spanW w.2 p).hi))),true):=by unfold relaxD;dsimp only;rw [if_pos hc]
   have hlt:riseM (relaxD p a w).1<riseM a.1:=by
    rw [he]
    exact z434 a.1 _ _ (getI a.1 w.2.frm) (by simp [getI,h2]) hc (z310 _ _ _ (by omega) h3)
   exact ⟨by omega,fun _ _=>by omega⟩
  ·have he:relaxD p a w=a:=by unfold relaxD;dsimp only;rw [if_neg hc]
   rw [he] at ih ⊢
   exact ih
end Go.Ab
namespace Go.Ab
open Go.RowKit Go.Proofs
attribute [local irreducible] WalkL Walk
theorem z45 {P:Program} {rd:Option Nat} {n:Nat} {J:Env} {c:Code} {cs:List Code} {k:Option Nat} {st:St} {Q:Exit→Option Nat→St→Prop} (ds:List Nat) (hw:Weak st (st.head ds [] [])) (h:WalkL P rd n J (c::cs) k (st.head ds [] []) Q) :
  WalkL P rd n J (c::cs) k st Q:=z53 hw h
theorem z923 (n:Net) (p:Party) (to b:Int) (hn:n.Ok) (hhi:∀ x ∈ n.paths,∀ s ∈ x.opens,s.hi≤2880) (hto:0≤to∧to<n.places):FnS Try.prog 54 [.agg (walkCells n p),.i to,.i b] 3 1 (intRows (deadlinesL n p to b)):=by
 obtain ⟨m,hm⟩:∃ m:Nat,n.places=m:=⟨n.places.toNat,by have:=hn.places.1;omega⟩
 have hpl:=hn.places
 refine z215 48 Try.call54 Try.func54 rfl (by decide) fun J=>?_
 simp only [go_sem,St.start,Try.ntmps54,Try.results54,walkCells]
 refine z24 ?_
 refine z3 fun K hK=>?_
 simp only [go_sem]
 apply hK
 clear hK K
 refine z24 ?_
 refine z3 fun K hK=>?_
 have h47:FnS Try.prog 47 [.sl [[.i (-1)]],.i n.places] 3 1 (List.replicate m [.i (-1)]):=by rw [hm];exact z890 (-1) m (by omega)
 simp only [go_sem]
 refine ⟨_,.lentS (hdst:=rfl) (hf:=h47) (hd:=rfl) (hr:=by intro r hr d hd;rw [List.eq_of_mem_replicate hr] at hd;simp at hd;subst hd;rfl) (hfr:=rfl),?_⟩
 simp only [go_sem]
 apply hK
 clear hK K
 have hlt:to.toNat<m:=by omega
 have hset:(List.replicate m [DV.int IntKind.i64 (-1)]).set to.toNat [DV.i b]=intRows (deadlines0 n to b):=by
  rw [show List.replicate m [DV.int IntKind.i64 (-1)]=intRows (List.replicate m (-1)) from z62 m (-1),z42,deadlines0,hm];rfl
 have hget:(List.replicate m [DV.int IntKind.i64 (-1)])[to.toNat]?=some [DV.int IntKind.i64 (-1)]:=by simp [hlt]
 repeat (first | refine nx ?_ | (refine z3 fun K hK=>?_;simp only [go_sem,hlt,hget,hset,hto.1];apply hK;clear hK K))
 refine z25 (fun (a:List Int × Bool × Nat)=>[(8,.box 8 0)]) (fun a=>[(8,some (.box [.d (.bool a.2.1)])),(16,some (.arr 3 1 (intRows a.1)))])
  (fun a=>a.1.length=m∧deadlinesL n p to b=(if a.2.1 then fixD n p a.2.2 a.1 else a.1)∧(a.2.1=true→riseM a.1<a.2.2)) (fun a=>if a.2.1 then a.2.2 + 1 else 0) (deadlines0 n to b,true,riseM (deadlines0 n to b) + 1) ?_ ⟨by simp [deadlines0,hm],by simp [deadlinesL],fun _=>by simp⟩ ?_
 ·simp only [go_sem]
  refine weA ?_ ?_ <;> simp
 ·rintro ⟨l,ch,k⟩ ⟨h1,h2,h3⟩
  dsimp only at h1 h2 h3
  simp only [go_sem]
  repeat (first | refine nx ?_ | (refine z3 fun K hK=>?_;simp only [go_sem];apply hK;clear hK K))
  refine z5 rfl (fun hb=>?_) (fun hb=>?_)
  ·subst hb
   repeat (first | refine nx ?_ | (refine z3 fun K hK=>?_;simp only [go_sem];apply hK;clear hK K))
   refine z3 fun K hK=>?_
   simp only [go_sem]
   refine ⟨_,.given (hf:=z842 n p (-1)) (hd:=rfl) (ha:=rfl),?_⟩
   simp only [go_sem]
   apply hK
   clear hK K
   repeat (first | refine nx ?_ | (refine z3 fun K hK=>?_;simp only [go_sem];apply hK;clear hK K))
   refine z71 (g:=.tmp 23) rfl (z453 n p (-1) (by have:=hn.paths;omega)) (by intro row hr;obtain ⟨w,_,rfl⟩:=List.mem_map.1 hr;rfl) (fun _=>[]) (fun (a:List Int × Bool)=>[(8,some (.box [.d (.bool a.2)])),(16,some (.arr 3 1 (intRows a.1)))])
    (fun i a=>a=((waysL n p (-1)).take i).foldl (relaxD p) (l,false)) (fun _ _=>False) (l,false) ?_ rfl ?_ ?_ (fun _ _ h=>h.elim)
   ·simp only [go_sem]
    refine weA ?_ ?_ <;> simp
   ·intro i a row hi ha l2 m2
    simp only [List.getElem?_map,Option.map_eq_some_iff] at hi
    obtain ⟨w,hw,rfl⟩:=hi
    have hx:=z70 (List.mem_of_getElem? hw)
    have hmem:=List.mem_of_getElem? hx
    have hlen:a.1.length=m:=by rw [ha,z119];exact h1
    have hf:=hn.frm w.2 hmem
    have ht:=hn.to w.2 hmem
    have g1:(intRows a.1)[w.2.to.toNat]?=some [.i (getI a.1 w.2.to)]:=z36 ht.1 (by omega)
    have g2:(intRows a.1)[w.2.frm.toNat]?=some [.i (getI a.1 w.2.frm)]:=z36 hf.1 (by omega)
    have g3:w.2.to.toNat<(intRows a.1).length:=by rw [z21];omega
    have g4:w.2.frm.toNat<(intRows a.1).length:=by rw [z21];omega
    have h49:=z908 n p w.1 w.2 (getI a.1 w.2.to) hx (by have:=hn.opens w.2 hmem;omega)
    have hnext:((waysL n p (-1)).take (i + 1)).foldl (relaxD p) (l,false)=relaxD p a w:=by rw [ha];exact z40 _ _ _ _ _ hw
    simp only [go_sem,wayRow,Path.row]
    repeat (first | refine nx ?_ | (refine z3 fun K hK=>?_;simp only [go_sem,g1,g2,g3,g4,ht.1,hf.1];apply hK;clear hK K))
    refine z15 (by kernel_rfl) (by kernel_rfl) fun K hK=>?_
    simp only [go_sem,g1,g2,g3,g4,ht.1,hf.1]
    refine ⟨_,.fn (hf:=h49) (hd:=rfl) (hr:=.inl rfl),?_⟩
    simp only [go_sem]
    refine ⟨by kernel_rfl,hK _ ?_⟩
    clear hK K
    repeat (first | refine nx ?_ | (refine z3 fun K hK=>?_;simp only [go_sem,g1,g2,g3,g4,ht.1,hf.1];apply hK;clear hK K))
    refine z5 rfl (fun hc=>?_) (fun hc=>?_)
    ·have hc:latestF w.2.opens (wr (getI a.1 w.2.to - (spanW w.2 p).hi)) > getI a.1 w.2.frm:=by simpa using hc
     have he:relaxD p a w=(a.1.set w.2.frm.toNat (latestF w.2.opens (wr (getI a.1 w.2.to - (spanW w.2 p).hi))),true):=by unfold relaxD;dsimp only;rw [if_pos hc]
     repeat (first | refine nx ?_ | (refine z3 fun K hK=>?_;simp only [go_sem,g1,g2,g3,g4,ht.1,hf.1];apply hK;clear hK K))
     refine ⟨rfl,relaxD p a w,?_,hnext.symm⟩
     rw [he,z42]
     simp only [go_sem]
     refine weA ?_ ?_ <;> simp
    ·have hc:¬ latestF w.2.opens (wr (getI a.1 w.2.to - (spanW w.2 p).hi)) > getI a.1 w.2.frm:=by simpa using hc
     have he:relaxD p a w=a:=by unfold relaxD;dsimp only;rw [if_neg hc]
     repeat (first | refine nx ?_ | (refine z3 fun K hK=>?_;simp only [go_sem];apply hK;clear hK K))
     refine ⟨rfl,relaxD p a w,?_,hnext.symm⟩
     rw [he]
     simp only [go_sem]
     refine weA ?_ ?_ <;> simp
   ·intro a ha
    rw [List.length_map,List.take_length] at ha
    have ha:a=passD n p l:=ha
    have hM:=z772 p (waysL n p (-1)) (l,false) (fun w hw=>by
     have hx:=List.mem_of_getElem? (z70 hw)
     have:=hn.frm w.2 hx
     exact ⟨this.1,by show w.2.frm.toNat<l.length;omega,hhi w.2 hx⟩)
    rw [← show passD n p l=(waysL n p (-1)).foldl (relaxD p) (l,false) from rfl,← ha] at hM
    have hlen:a.1.length=m:=by rw [ha,passD,z119];exact h1
    have hk:=h3 rfl
    simp only [go_sem]
    repeat (first | refine nx ?_ | (refine z3 fun K hK=>?_;simp only [go_sem];apply hK;clear hK K))
    refine z45 [8] ?_ ?_
    ·simp only [go_sem]
     refine weA ?_ ?_ <;> simp
    simp only [go_sem]
    repeat (first | refine nx ?_ | (refine z3 fun K hK=>?_;simp only [go_sem];apply hK;clear hK K))
    refine ⟨rfl,(a.1,a.2,k - 1),?_,⟨hlen,?_,fun hc=>?_⟩,?_⟩
    ·refine weA ?_ ?_ <;> simp
    ·obtain ⟨k',rfl⟩:∃ k',k=k' + 1:=⟨k - 1,by omega⟩
     rw [h2,if_pos rfl,fixD,← ha];rfl
    ·have:=hM.2 rfl hc
     dsimp only at this ⊢
     omega
    ·dsimp only
     split <;> simp <;> omega
  ·subst hb
   repeat (first | refine nx ?_ | (refine z3 fun K hK=>?_;simp only [go_sem];apply hK;clear hK K))
   simp only [go_sem]
   rw [h2]
   simp
end Go.Ab
namespace Go.Ab
open Go.RowKit Go.Proofs
attribute [local irreducible] WalkL Walk
def never:Int:=1073741824
def relaxA (p:Party) (q:Span→Int) (a:List Int × Bool) (w:Nat × Path):List Int × Bool :=
 if getI a.1 w.2.frm=never then a else
  let t:=arriveF w.2.opens (getI a.1 w.2.frm) (q (spanW w.2 p))
  if t<getI a.1 w.2.to then (a.1.set w.2.to.toNat t,true) else a
def passA (n:Net) (p:Party) (q:Span→Int) (but:Int) (l:List Int):List Int × Bool:=(waysL n p but).foldl (relaxA p q) (l,false)
theorem z300 (p:Party) (q:Span→Int) (a:List Int × Bool) (w:Nat × Path):(relaxA p q a w).1.length=a.1.length:=by
 unfold relaxA
 split
 ·rfl
 ·dsimp only;split <;> simp
theorem z120 (p:Party) (q:Span→Int):∀ (ws:List (Nat × Path)) (a:List Int × Bool),(ws.foldl (relaxA p q) a).1.length=a.1.length
 | [],_=>rfl
 | w::ws,a=>by rw [List.foldl_cons,z120 p q ws,z300]
def fallM (l:List Int):Nat:=(l.map fun x=>(x + 9223372036854775809).toNat).sum
theorem z471:∀ (l:List Int) (k:Nat) (t x:Int),l[k]?=some x→t<x→-9223372036854775808≤t→fallM (l.set k t)<fallM l
 | [],_,_,_,h,_,_=>by simp at h
 | a::l,0,t,x,h,h1,h2=>by
  simp at h;subst h
  simp only [fallM,List.set_cons_zero,List.map_cons,List.sum_cons]
  omega
 | a::l,k + 1,t,x,h,h1,h2=>by
  have:=z471 l k t x (by simpa using h) h1 h2
  simp only [fallM,List.set_cons_succ,List.map_cons,List.sum_cons] at this ⊢
  omega
theorem z872 (x:Int):-9223372036854775808≤wr x:=by
 show -9223372036854775808≤IntKind.i64.wrap x
 rw [IntKind.wrap_i64];omega
theorem z602 (opens:List Span) (t d:Int):-9223372036854775808≤arriveF opens t d:=by
 unfold arriveF;split
 ·omega
 ·exact z872 _
theorem z588 (p:Party) (q:Span→Int):∀ (ws:List (Nat × Path)) (a:List Int × Bool),(∀ w ∈ ws,w.2.to.toNat<a.1.length) →
  fallM (ws.foldl (relaxA p q) a).1≤fallM a.1∧(a.2=false→(ws.foldl (relaxA p q) a).2=true→fallM (ws.foldl (relaxA p q) a).1<fallM a.1)
 | [],a,_=>⟨Nat.le_refl _,fun h1 h2=>by simp only [List.foldl_nil] at h2;rw [h1] at h2;cases h2⟩
 | w::ws,a,h=>by
  have h2:=h w (List.mem_cons_self ..)
  have ih:=z588 p q ws (relaxA p q a w) (fun w' h'=>by rw [z300];exact h w' (List.mem_cons_of_mem _ h'))
  rw [List.foldl_cons]
  by_cases hn:getI a.1 w.2.frm=never
  ·have he:relaxA p q a w=a:=by unfold relaxA;rw [if_pos hn]
   rw [he] at ih ⊢;exact ih
  ·by_cases hc:arriveF w.2.opens (getI a.1 w.2.frm) (q (spanW w.2 p))<getI a.1 w.2.to
   ·have he:relaxA p q a w=(a.1.set w.2.to.toNat (arriveF w.2.opens (getI a.1 w.2.frm) (q (spanW w.2 p))),true):=by unfold relaxA;rw [if_neg hn];dsimp only;rw [if_pos hc]
    have hlt:fallM (relaxA p q a w).1<fallM a.1:=by
     rw [he]
     exact z471 a.1 _ _ (getI a.1 w.2.to) (by simp [getI,h2]) hc (z602 _ _ _)
    exact ⟨by omega,fun _ _=>by omega⟩
   ·have he:relaxA p q a w=a:=by unfold relaxA;rw [if_neg hn];dsimp only;rw [if_neg hc]
    rw [he] at ih ⊢;exact ih
def fixA (n:Net) (p:Party) (q:Span→Int) (but:Int):Nat→List Int→List Int
 | 0,l=>l
 | k + 1,l=>if (passA n p q but l).2 then fixA n p q but k (passA n p q but l).1 else (passA n p q but l).1
def arrivals0 (n:Net) (frm start:Int):List Int:=(List.replicate n.places.toNat never).set frm.toNat start
def arrivalsL (n:Net) (p:Party) (q:Span→Int) (frm start but:Int):List Int:=fixA n p q but (fallM (arrivals0 n frm start) + 1) (arrivals0 n frm start)
end Go.Ab
namespace Go.Ab
open Go.RowKit Go.Proofs
attribute [local irreducible] WalkL Walk
theorem z891 (n:Net) (p:Party) (frm start but:Int) (g:Nat) (q:Span→Int) (hq:∀ s,Fn Try.prog g [.agg s.row] (.i (q s))) (hn:n.Ok) (hfr:0≤frm∧frm<n.places) :
  FnS Try.prog 42 [.agg (walkCells n p),.i frm,.i start,.i but,.fn g []] 3 1 (intRows (arrivalsL n p q frm start but)):=by
 obtain ⟨m,hm⟩:∃ m:Nat,n.places=m:=⟨n.places.toNat,by have:=hn.places.1;omega⟩
 have hpl:=hn.places
 refine z215 64 Try.call42 Try.func42 rfl (by decide) fun J=>?_
 simp only [go_sem,St.start,Try.ntmps42,Try.results42,walkCells]
 refine z24 ?_
 refine z3 fun K hK=>?_
 simp only [go_sem]
 apply hK
 clear hK K
 refine z24 ?_
 refine z3 fun K hK=>?_
 have h47:FnS Try.prog 47 [.sl [[.i 1073741824]],.i n.places] 3 1 (List.replicate m [.i 1073741824]):=by rw [hm];exact z890 1073741824 m (by omega)
 simp only [go_sem]
 refine ⟨_,.lentS (hdst:=rfl) (hf:=h47) (hd:=rfl) (hr:=by intro r hr d hd;rw [List.eq_of_mem_replicate hr] at hd;simp at hd;subst hd;rfl) (hfr:=rfl),?_⟩
 simp only [go_sem]
 apply hK
 clear hK K
 have hlt:frm.toNat<m:=by omega
 have hset:(List.replicate m [DV.int IntKind.i64 1073741824]).set frm.toNat [DV.i start]=intRows (arrivals0 n frm start):=by
  rw [show List.replicate m [DV.int IntKind.i64 1073741824]=intRows (List.replicate m 1073741824) from z62 m 1073741824,z42,arrivals0,hm];rfl
 have hget:(List.replicate m [DV.int IntKind.i64 1073741824])[frm.toNat]?=some [DV.int IntKind.i64 1073741824]:=by simp [hlt]
 repeat (first | refine nx ?_ | (refine z3 fun K hK=>?_;simp only [go_sem,hlt,hget,hset,hfr.1];apply hK;clear hK K))
 refine z25 (fun (a:List Int × Bool × Nat)=>[(12,.box 12 0)]) (fun a=>[(12,some (.box [.d (.bool a.2.1)])),(20,some (.arr 3 1 (intRows a.1)))])
  (fun a=>a.1.length=m∧arrivalsL n p q frm start but=(if a.2.1 then fixA n p q but a.2.2 a.1 else a.1)∧(a.2.1=true→fallM a.1<a.2.2)) (fun a=>if a.2.1 then a.2.2 + 1 else 0) (arrivals0 n frm start,true,fallM (arrivals0 n frm start) + 1) ?_ ⟨by simp [arrivals0,hm],by simp [arrivalsL],fun _=>by simp⟩ ?_
 ·simp only [go_sem]
  refine weA ?_ ?_ <;> simp
 ·rintro ⟨l,ch,k⟩ ⟨h1,h2,h3⟩
  dsimp only at h1 h2 h3
  simp only [go_sem]
  repeat (first | refine nx ?_ | (refine z3 fun K hK=>?_;simp only [go_sem];apply hK;clear hK K))
  refine z5 rfl (fun hb=>?_) (fun hb=>?_)
  ·subst hb
   repeat (first | refine nx ?_ | (refine z3 fun K hK=>?_;simp only [go_sem];apply hK;clear hK K))
   refine z3 fun K hK=>?_
   simp only [go_sem]
   refine ⟨_,.given (hf:=z842 n p but) (hd:=rfl) (ha:=rfl),?_⟩
   simp only [go_sem]
   apply hK
   clear hK K
   repeat (first | refine nx ?_ | (refine z3 fun K hK=>?_;simp only [go_sem];apply hK;clear hK K))
   refine z71 (g:=.tmp 28) rfl (z453 n p but (by have:=hn.paths;omega)) (by intro row hr;obtain ⟨w,_,rfl⟩:=List.mem_map.1 hr;rfl) (fun _=>[]) (fun (a:List Int × Bool)=>[(12,some (.box [.d (.bool a.2)])),(20,some (.arr 3 1 (intRows a.1)))])
    (fun i a=>a=((waysL n p but).take i).foldl (relaxA p q) (l,false)) (fun _ _=>False) (l,false) ?_ rfl ?_ ?_ (fun _ _ h=>h.elim)
   ·simp only [go_sem]
    refine weA ?_ ?_ <;> simp
   ·intro i a row hi ha l2 m2
    simp only [List.getElem?_map,Option.map_eq_some_iff] at hi
    obtain ⟨w,hw,rfl⟩:=hi
    have hx:=z70 (List.mem_of_getElem? hw)
    have hmem:=List.mem_of_getElem? hx
    have hlen:a.1.length=m:=by rw [ha,z120];exact h1
    have hf:=hn.frm w.2 hmem
    have ht:=hn.to w.2 hmem
    have g1:(intRows a.1)[w.2.to.toNat]?=some [.i (getI a.1 w.2.to)]:=z36 ht.1 (by omega)
    have g2:(intRows a.1)[w.2.frm.toNat]?=some [.i (getI a.1 w.2.frm)]:=z36 hf.1 (by omega)
    have g3:w.2.to.toNat<(intRows a.1).length:=by rw [z21];omega
    have g4:w.2.frm.toNat<(intRows a.1).length:=by rw [z21];omega
    have h50:=z889 n p w.1 w.2 (getI a.1 w.2.frm) (q (spanW w.2 p)) hx (by have:=hn.opens w.2 hmem;omega)
    have h51:=z870 n p w.1 w.2 hx
    have hnext:((waysL n p but).take (i + 1)).foldl (relaxA p q) (l,false)=relaxA p q a w:=by rw [ha];exact z40 _ _ _ _ _ hw
    simp only [go_sem,wayRow,Path.row]
    repeat (first | refine nx ?_ | (refine z3 fun K hK=>?_;simp only [go_sem,g1,g2,g3,g4,ht.1,hf.1];apply hK;clear hK K))
    refine z5 rfl (fun hc=>?_) (fun hc=>?_)
    ·have hc:getI a.1 w.2.frm=never:=by simpa [never] using hc
     have he:relaxA p q a w=a:=by unfold relaxA;rw [if_pos hc]
     repeat (first | refine nx ?_ | (refine z3 fun K hK=>?_;simp only [go_sem];apply hK;clear hK K))
     refine ⟨rfl,relaxA p q a w,?_,hnext.symm⟩
     rw [he]
     simp only [go_sem]
     refine weA ?_ ?_ <;> simp
    ·have hnv:¬ getI a.1 w.2.frm=never:=by intro e;rw [e] at hc;simp [never] at hc
     repeat (first | refine nx ?_ | (refine z3 fun K hK=>?_;simp only [go_sem];apply hK;clear hK K))
     refine z15 (by kernel_rfl) (by kernel_rfl) fun K hK=>?_
     simp only [go_sem,g1,g2,g3,g4,ht.1,hf.1]
     refine ⟨_,.fn (hf:=h51) (hd:=rfl) (hr:=.inl rfl),?_⟩
     simp only [go_sem]
     refine ⟨_,.fn (hf:=hq _) (hd:=rfl) (hr:=.inl rfl),?_⟩
     simp only [go_sem]
     refine ⟨_,.fn (hf:=h50) (hd:=rfl) (hr:=.inl rfl),?_⟩
     simp only [go_sem]
     refine ⟨by kernel_rfl,hK _ ?_⟩
     clear hK K
     repeat (first | refine nx ?_ | (refine z3 fun K hK=>?_;simp only [go_sem,g1,g2,g3,g4,ht.1,hf.1];apply hK;clear hK K))
     refine z5 rfl (fun hc=>?_) (fun hc=>?_)
     ·have hc:arriveF w.2.opens (getI a.1 w.2.frm) (q (spanW w.2 p))<getI a.1 w.2.to:=by simpa using hc
      have he:relaxA p q a w=(a.1.set w.2.to.toNat (arriveF w.2.opens (getI a.1 w.2.frm) (q (spanW w.2 p))),true):=by unfold relaxA;rw [if_neg hnv];dsimp only;rw [if_pos hc]
      repeat (first | refine nx ?_ | (refine z3 fun K hK=>?_;simp only [go_sem,g1,g2,g3,g4,ht.1,hf.1];apply hK;clear hK K))
      refine ⟨rfl,relaxA p q a w,?_,hnext.symm⟩
      rw [he,z42]
      simp only [go_sem]
      refine weA ?_ ?_ <;> simp
     ·have hc:¬ arriveF w.2.opens (getI a.1 w.2.frm) (q (spanW w.2 p))<getI a.1 w.2.to:=by simpa using hc
      have he:relaxA p q a w=a:=by unfold relaxA;rw [if_neg hnv];dsimp only;rw [if_neg hc]
      repeat (first | refine nx ?_ | (refine z3 fun K hK=>?_;simp only [go_sem];apply hK;clear hK K))
      refine ⟨rfl,relaxA p q a w,?_,hnext.symm⟩
      rw [he]
      simp only [go_sem]
      refine weA ?_ ?_ <;> simp
   ·intro a ha
    rw [List.length_map,List.take_length] at ha
    have ha:a=passA n p q but l:=ha
    have hM:=z588 p q (waysL n p but) (l,false) (fun w hw=>by
     have:=hn.to w.2 (List.mem_of_getElem? (z70 hw))
     show w.2.to.toNat<l.length;omega)
    rw [← show passA n p q but l=(waysL n p but).foldl (relaxA p q) (l,false) from rfl,← ha] at hM
    have hlen:a.1.length=m:=by rw [ha,passA,z120];exact h1
    have hk:=h3 rfl
    simp only [go_sem]
    repeat (first | refine nx ?_ | (refine z3 fun K hK=>?_;simp only [go_sem];apply hK;clear hK K))
    refine z45 [12] ?_ ?_
    ·simp only [go_sem]
     refine weA ?_ ?_ <;> simp
    simp only [go_sem]
    repeat (first | refine nx ?_ | (refine z3 fun K hK=>?_;simp only [go_sem];apply hK;clear hK K))
    refine ⟨rfl,(a.1,a.2,k - 1),?_,⟨hlen,?_,fun hc=>?_⟩,?_⟩
    ·refine weA ?_ ?_ <;> simp
    ·obtain ⟨k',rfl⟩:∃ k',k=k' + 1:=⟨k - 1,by omega⟩
     rw [h2,if_pos rfl,fixA,← ha];rfl
    ·have:=hM.2 rfl hc
     dsimp only at this ⊢
     omega
    ·dsimp only
     split <;> simp <;> omega
  ·subst hb
   repeat (first | refine nx ?_ | (refine z3 fun K hK=>?_;simp only [go_sem];apply hK;clear hK K))
   simp only [go_sem]
   rw [h2]
   simp
end Go.Ab
namespace Go.Ab
open Go.RowKit Go.Proofs
attribute [local irreducible] WalkL Walk
def told1 (t:Int):Int:=if t=never then -1 else t
theorem z724 (l:List Int) (i:Nat) (h:i<l.length):((l.take i).map told1++l.drop i).set i (told1 l[i])=(l.take (i + 1)).map told1++l.drop (i + 1):=by
 have h1:((l.take i).map told1).length=i:=by simp;omega
 rw [List.set_append_right _ _ (by omega),h1,Nat.sub_self,List.drop_eq_getElem_cons h,List.set_cons_zero,List.take_add_one,List.map_append]
 simp [h]
theorem z606 (l:List Int) (i:Nat) (h:i<l.length):((l.take i).map told1++l.drop i)[i]?=some l[i]:=by
 have h1:((l.take i).map told1).length=i:=by simp;omega
 rw [List.getElem?_append_right (by omega),h1]
 simp [h]
theorem z796 (l:List Int) (i:Nat):((l.take i).map told1++l.drop i).length=l.length:=by simp;omega
theorem z800 {α:Type} {l:List α} {i:Nat} {x:α} (h:l[i]?=some x):l.set i x=l:=by
 apply List.ext_getElem?
 intro k
 rw [List.getElem?_set]
 split
 ·rename_i e;subst e;rw [if_pos (List.getElem?_eq_some_iff.1 h).1,h]
 ·rfl
theorem z907 (l:List Int) (hl:l.length<2 ^ 62):FnG Try.prog 59 [.arr 3 1 (intRows l)] [0] [.own 0] (.own 0) [.arr 3 1 (intRows (l.map told1))]:=by
 refine z614 19 Try.call59 Try.func59 rfl (by decide) [] [(0,0)] (by simp only [List.length_cons,List.length_nil];decide) (by kernel_rfl) fun J=>?_
 simp only [go_sem,St.startG,Try.ntmps59,Try.results59,List.map_cons,List.map_nil,List.range_succ]
 repeat (first | refine nx ?_ | (refine z3 fun K hK=>?_;simp only [go_sem,z21];apply hK;clear hK K))
 refine z25 (fun (i:Nat)=>[(7,.d (.i i))]) (fun i=>[(19,some (.arr 3 1 (intRows ((l.take i).map told1++l.drop i))))]) (fun i=>i≤l.length) (fun i=>l.length - i) 0 ?_ (Nat.zero_le _) ?_
 ·simp only [go_sem]
  refine weA ?_ ?_ <;> simp
 ·intro i hi
  simp only [go_sem]
  repeat (first | refine nx ?_ | (refine z3 fun K hK=>?_;simp only [go_sem];apply hK;clear hK K))
  refine z5 rfl (fun hb=>?_) (fun hb=>?_)
  ·have hlt:i<l.length:=by simpa using hb
   have hw:IntKind.i64.wrap ((i:Int) + 1)=((i + 1:Nat):Int):=by rw [z12 (by omega)];simp
   have hlen:=z796 l i
   have g1:(intRows ((l.take i).map told1++l.drop i))[i]?=some [.i l[i]]:=by simp only [intRows,List.getElem?_map,z606 l i hlt,Option.map_some]
   have hn:=z724 l i hlt
   repeat (first | refine nx ?_ | (refine z3 fun K hK=>?_;simp only [go_sem,hlt,z21,hlen,g1,hw];apply hK;clear hK K))
   refine z5 rfl (fun hc=>?_) (fun hc=>?_)
   ·have hc:l[i]=never:=by simpa [never] using hc
    have ht:told1 l[i]=-1:=by unfold told1;rw [if_pos hc]
    rw [ht] at hn
    repeat (first | refine nx ?_ | (refine z3 fun K hK=>?_;simp only [go_sem,hlt,z21,hlen,g1,hw];apply hK;clear hK K))
    refine ⟨rfl,i + 1,?_,hlt,by omega⟩
    rw [← hn,← z42]
    refine weA ?_ ?_ <;> simp
   ·have hc:¬ l[i]=never:=by intro e;rw [e] at hc;simp [never] at hc
    have ht:told1 l[i]=l[i]:=by unfold told1;rw [if_neg hc]
    repeat (first | refine nx ?_ | (refine z3 fun K hK=>?_;simp only [go_sem,hlt,z21,hlen,g1,hw];apply hK;clear hK K))
    refine ⟨rfl,i + 1,?_,hlt,by omega⟩
    rw [ht,z800 (z606 l i hlt)] at hn
    rw [← hn]
    refine weA ?_ ?_ <;> simp
  ·have he:i=l.length:=by have:¬ i<l.length:=by simpa using hb
                          omega
   subst he
   repeat (first | refine nx ?_ | (refine z3 fun K hK=>?_;simp only [go_sem];apply hK;clear hK K))
   simp only [go_sem,List.take_length,List.drop_length]
end Go.Ab
namespace Go.Ab
open Go.RowKit Go.Proofs
attribute [local irreducible] WalkL Walk
structure Net.Small (n:Net):Prop where
 paths:n.paths.length<2 ^ 30
 opens:∀ x ∈ n.paths,x.opens.length<2 ^ 30
def wrong1 (n:Net) (x:Path):Bool :=
 !withinB x.frm 0 (n.places - 1) || (!withinB x.to 0 (n.places - 1) || (x.frm == x.to || (!withinB x.grade 1 6 || (!orderedB x.time 1 600 || (!orderedB x.snow 0 30 || decide ((x.opens.length:Int) > 6))))))
def wrongB (n:Net) (x:Path):Bool:=wrong1 n x || x.opens.any (fun s=>!orderedB s 0 2880)
theorem z919 (n:Net) (x:Path) (hn:0≤n.places∧n.places<2 ^ 62) (hl:x.opens.length<2 ^ 30) :
  Fn Try.prog 68 [.agg x.row,.ptr [.fn 64 [.ptr n.cells 0]] 0,.ptr [.fn 66 []] 0] (.bool (wrongB n x)):=by
 refine z10 54 Try.call68 Try.func68 rfl (by decide) fun J=>?_
 simp only [go_sem,St.start,Try.ntmps68,Try.results68,Path.row,Net.cells]
 have h66:=fun s (_:s ∈ x.opens)=>z920 s (.i 0)
 repeat (first | refine nx ?_ | (refine z3 fun K hK=>?_;simp only [go_sem];apply hK;clear hK K))
 refine z41 [(4,.d (.bool (wrongB n x)))] [] ?_ ?_
 ·refine z3 fun K hK=>?_
  simp only [go_sem]
  refine ⟨_,.lent (hf:=z906 n x.frm hn) (hd:=rfl) (hr:=rfl),?_⟩
  simp only [go_sem]
  by_cases ho0:(!withinB x.frm 0 (n.places - 1))=true
  ·simp only [go_sem,ho0]
   apply hK
   clear hK K
   refine z8 ?_
   refine z6 ?_
   refine ⟨rfl,?_⟩
   rw [show (wrongB n x)=(true) from by simp [wrongB,wrong1,ho0]]
   simp only [go_sem]
   refine weA ?_ ?_ <;> simp
  ·simp only [go_sem,ho0]
   refine ⟨_,.lent (hf:=z906 n x.to hn) (hd:=rfl) (hr:=rfl),?_⟩
   simp only [go_sem,ho0]
   by_cases ho1:(!withinB x.to 0 (n.places - 1))=true
   ·simp only [go_sem,ho0,ho1]
    apply hK
    clear hK K
    refine z8 ?_
    refine z6 ?_
    refine ⟨rfl,?_⟩
    rw [show (wrongB n x)=(true) from by simp [wrongB,wrong1,ho0,ho1]]
    simp only [go_sem]
    refine weA ?_ ?_ <;> simp
   ·simp only [go_sem,ho0,ho1]
    by_cases ho2:(x.frm == x.to)=true
    ·simp only [go_sem,ho0,ho1,ho2]
     apply hK
     clear hK K
     refine z8 ?_
     refine z6 ?_
     refine ⟨rfl,?_⟩
     rw [show (wrongB n x)=(true) from by simp [wrongB,wrong1,ho0,ho1,ho2]]
     simp only [go_sem]
     refine weA ?_ ?_ <;> simp
    ·simp only [go_sem,ho0,ho1,ho2]
     refine ⟨_,.lent (hf:=z788 x.grade 1 6) (hd:=rfl) (hr:=rfl),?_⟩
     simp only [go_sem,ho0,ho1,ho2]
     by_cases ho3:(!withinB x.grade 1 6)=true
     ·simp only [go_sem,ho0,ho1,ho2,ho3]
      apply hK
      clear hK K
      refine z8 ?_
      refine z6 ?_
      refine ⟨rfl,?_⟩
      rw [show (wrongB n x)=(true) from by simp [wrongB,wrong1,ho0,ho1,ho2,ho3]]
      simp only [go_sem]
      refine weA ?_ ?_ <;> simp
     ·simp only [go_sem,ho0,ho1,ho2,ho3]
      refine ⟨_,.lent (hf:=z869 x.time 1 600) (hd:=rfl) (hr:=rfl),?_⟩
      simp only [go_sem,ho0,ho1,ho2,ho3]
      by_cases ho4:(!orderedB x.time 1 600)=true
      ·simp only [go_sem,ho0,ho1,ho2,ho3,ho4]
       apply hK
       clear hK K
       refine z8 ?_
       refine z6 ?_
       refine ⟨rfl,?_⟩
       rw [show (wrongB n x)=(true) from by simp [wrongB,wrong1,ho0,ho1,ho2,ho3,ho4]]
       simp only [go_sem]
       refine weA ?_ ?_ <;> simp
      ·simp only [go_sem,ho0,ho1,ho2,ho3,ho4]
       refine ⟨_,.lent (hf:=z869 x.snow 0 30) (hd:=rfl) (hr:=rfl),?_⟩
       simp only [go_sem,ho0,ho1,ho2,ho3,ho4]
       by_cases ho5:(!orderedB x.snow 0 30)=true
       ·simp only [go_sem,ho0,ho1,ho2,ho3,ho4,ho5]
        apply hK
        clear hK K
        refine z8 ?_
        refine z6 ?_
        refine ⟨rfl,?_⟩
        rw [show (wrongB n x)=(true) from by simp [wrongB,wrong1,ho0,ho1,ho2,ho3,ho4,ho5]]
        simp only [go_sem]
        refine weA ?_ ?_ <;> simp
       ·simp only [go_sem,ho0,ho1,ho2,ho3,ho4,ho5]
        by_cases ho6:(decide ((x.opens.length:Int) > 6))=true
        ·simp only [go_sem,ho0,ho1,ho2,ho3,ho4,ho5,ho6]
         apply hK
         clear hK K
         refine z8 ?_
         refine z6 ?_
         refine ⟨rfl,?_⟩
         rw [show (wrongB n x)=(true) from by simp [wrongB,wrong1,ho0,ho1,ho2,ho3,ho4,ho5,ho6]]
         simp only [go_sem]
         refine weA ?_ ?_ <;> simp
        ·simp only [go_sem,ho0,ho1,ho2,ho3,ho4,ho5,ho6]
         refine ⟨_,.lent (hf:=z918 x.opens 66 [] _ h66 (by omega)) (hd:=rfl) (hr:=rfl),?_⟩
         simp only [go_sem,ho0,ho1,ho2,ho3,ho4,ho5,ho6]
         apply hK
         clear hK K
         refine z8 ?_
         refine z6 ?_
         refine ⟨rfl,?_⟩
         rw [show (wrongB n x)=(x.opens.any (fun s=>!orderedB s 0 2880)) from by simp [wrongB,wrong1,ho0,ho1,ho2,ho3,ho4,ho5,ho6]]
         simp only [go_sem]
         refine weA ?_ ?_ <;> simp
 ·simp only [go_sem]
  repeat (first | refine nx ?_ | (refine z3 fun K hK=>?_;simp only [go_sem];apply hK;clear hK K))
  simp only [go_sem]
def badNet (n:Net):Bool:=!withinB n.places 1 12 || (decide ((n.paths.length:Int) > 24) || n.paths.any (wrongB n))
def checkF (n:Net):Int:=if badNet n then 10 else 0
theorem z34 {x lo hi:Int}:withinB x lo hi=true↔lo≤x∧x≤hi:=by simp [withinB]
theorem z911 (n:Net) (hs:n.Small):Fn Try.prog 26 [.agg n.cells] (.i (checkF n)):=by
 refine z10 24 Try.call26 Try.func26 rfl (by decide) fun J=>?_
 simp only [go_sem,St.start,Try.ntmps26,Try.results26,Net.cells]
 have h68:withinB n.places 1 12=true→∀ x ∈ n.paths,Fn Try.prog 68 [.agg x.row,.ptr [.fn 64 [.ptr n.cells 0]] 0,.ptr [.fn 66 []] 0] (.bool (wrongB n x)):=fun h x hx =>
  z919 n x (by have:=z34.1 h;omega) (hs.opens x hx)
 have h70:=fun h=>z917 n.paths 68 [.ptr [.fn 64 [.ptr n.cells 0]] 0,.ptr [.fn 66 []] 0] (wrongB n) (h68 h) (Nat.lt_trans hs.paths (by decide))
 repeat (first | refine nx ?_ | (refine z3 fun K hK=>?_;simp only [go_sem];apply hK;clear hK K))
 refine z41 [(23,.d (.bool (badNet n)))] [] ?_ ?_
 ·refine z3 fun K hK=>?_
  simp only [go_sem]
  refine ⟨_,.lent (hf:=z788 n.places 1 12) (hd:=rfl) (hr:=rfl),?_⟩
  simp only [go_sem]
  by_cases ho0:(!withinB n.places 1 12)=true
  ·simp only [go_sem,ho0]
   apply hK
   clear hK K
   refine z8 ?_
   refine z6 ?_
   refine ⟨rfl,?_⟩
   rw [show (badNet n)=(true) from by simp [badNet,ho0]]
   simp only [go_sem]
   refine weA ?_ ?_ <;> simp
  ·simp only [go_sem,ho0]
   by_cases ho1:(decide ((n.paths.length:Int) > 24))=true
   ·simp only [go_sem,ho0,ho1]
    apply hK
    clear hK K
    refine z8 ?_
    refine z6 ?_
    refine ⟨rfl,?_⟩
    rw [show (badNet n)=(true) from by simp [badNet,ho0,ho1]]
    simp only [go_sem]
    refine weA ?_ ?_ <;> simp
   ·simp only [go_sem,ho0,ho1]
    refine ⟨_,.lent (hf:=h70 (by simpa using ho0)) (hd:=rfl) (hr:=rfl),?_⟩
    simp only [go_sem,ho0,ho1]
    apply hK
    clear hK K
    refine z8 ?_
    refine z6 ?_
    refine ⟨rfl,?_⟩
    rw [show (badNet n)=(n.paths.any (wrongB n)) from by simp [badNet,ho0,ho1]]
    simp only [go_sem]
    refine weA ?_ ?_ <;> simp
 ·simp only [go_sem]
  repeat (first | refine nx ?_ | (refine z3 fun K hK=>?_;simp only [go_sem];apply hK;clear hK K))
  refine z5 rfl (fun hc=>?_) (fun hc=>?_)
  ·repeat (first | refine nx ?_ | (refine z3 fun K hK=>?_;simp only [go_sem];apply hK;clear hK K))
   simp only [go_sem,checkF,hc]
  ·repeat (first | refine nx ?_ | (refine z3 fun K hK=>?_;simp only [go_sem];apply hK;clear hK K))
   simp only [go_sem,checkF,hc]
end Go.Ab
namespace Go.Ab
open Go.RowKit Go.Proofs
set_option maxHeartbeats 4000000
attribute [local irreducible] WalkL Walk
theorem z108 {α:Type} {q:α→Bool} {l:List α} {i:Nat} {x:α} (h:l[i]?=some x) (h0:(l.take i).any q=false) (hx:q x=false):(l.take (i + 1)).any q=false:=by
 rw [List.take_add_one,h,List.any_append,h0];simp [hx]
theorem z142 {α:Type} {q:α→Bool} {l:List α} {i:Nat} {x:α} (h:l[i]?=some x) (hx:q x=true):l.any q=true:=List.any_eq_true.2 ⟨x,List.mem_of_getElem? h,hx⟩
theorem z850 (n:Net) (hs:n.Small):Fn Try.prog 27 [.agg n.cells] (.i (checkF n)):=by
 refine z10 85 Try.call27 Try.func27 rfl (by decide) fun J=>?_
 simp only [go_sem,St.start,Try.ntmps27,Try.results27,Net.cells]
 repeat (first | refine nx ?_ | (refine z3 fun K hK=>?_;simp only [go_sem];apply hK;clear hK K))
 refine z41 [(15,.d (.bool (!withinB n.places 1 12 || decide ((n.paths.length:Int) > 24))))] [] ?_ ?_
 ·refine z3 fun K hK=>?_
  simp only [go_sem]
  refine ⟨_,.lent (hf:=z787 n.places 1 12) (hd:=rfl) (hr:=rfl),?_⟩
  simp only [go_sem]
  by_cases ho0:(!withinB n.places 1 12)=true
  ·simp only [go_sem,ho0]
   apply hK
   clear hK K
   refine z8 ?_
   refine z6 ?_
   refine ⟨rfl,?_⟩
   rw [show (!withinB n.places 1 12 || decide ((n.paths.length:Int) > 24))=(true) from by simp [ho0]]
   simp only [go_sem]
   refine weA ?_ ?_ <;> simp
  ·simp only [go_sem,ho0]
   apply hK
   clear hK K
   refine z8 ?_
   refine z6 ?_
   refine ⟨rfl,?_⟩
   rw [show (!withinB n.places 1 12 || decide ((n.paths.length:Int) > 24))=(decide ((n.paths.length:Int) > 24)) from by simp [ho0]]
   simp only [go_sem]
   refine weA ?_ ?_ <;> simp
 simp only [go_sem]
 refine z5 rfl (fun hc=>?_) (fun hc=>?_)
 ·repeat (first | refine nx ?_ | (refine z3 fun K hK=>?_;simp only [go_sem];apply hK;clear hK K))
  have hb:badNet n=true:=by unfold badNet;rw [← Bool.or_assoc,hc];rfl
  simp only [go_sem,checkF,hb]
 ·rw [Bool.or_eq_false_iff] at hc
  have hpl:=z34.1 (show withinB n.places 1 12=true by simpa using hc.1)
  have hbad:badNet n=n.paths.any (wrongB n):=by unfold badNet;rw [← Bool.or_assoc,hc.1,hc.2];rfl
  repeat (first | refine nx ?_ | (refine z3 fun K hK=>?_;simp only [go_sem];apply hK;clear hK K))
  refine z25 (fun (i:Nat)=>[(3,.d (.i i))]) (fun _=>[]) (fun i=>i≤n.paths.length∧(n.paths.take i).any (wrongB n)=false) (fun i=>n.paths.length - i) 0 ?_ ⟨Nat.zero_le _,rfl⟩ ?_
  ·simp only [go_sem]
   refine weA ?_ ?_ <;> simp
  ·intro i ⟨hi,hall⟩
   have hbound:=hs.paths
   simp only [go_sem]
   repeat (first | refine nx ?_ | (refine z3 fun K hK=>?_;simp only [go_sem];apply hK;clear hK K))
   refine z5 rfl (fun hb=>?_) (fun hb=>?_)
   ·have hlt:i<n.paths.length:=by simpa using hb
    have hw:IntKind.i64.wrap ((i:Int) + 1)=((i + 1:Nat):Int):=by rw [z12 (by omega)];simp
    obtain ⟨x,hx⟩:∃ x,n.paths[i]?=some x:=⟨_,List.getElem?_eq_getElem hlt⟩
    have hxo:=hs.opens x (List.mem_of_getElem? hx)
    have hp62:-(2 ^ 62)≤n.places∧n.places<2 ^ 62:=by omega
    repeat (first | refine nx ?_ | (refine z3 fun K hK=>?_;simp only [go_sem,hx,List.getElem?_map,Path.row];apply hK;clear hK K))
    refine z41 [(70,.d (.bool (wrong1 n x)))] [] ?_ ?_
    ·refine z3 fun K hK=>?_
     simp only [go_sem]
     refine ⟨_,.lent (hf:=z888 n x.frm hp62) (hd:=rfl) (hr:=rfl),?_⟩
     simp only [go_sem]
     by_cases ho0:(!withinB x.frm 0 (n.places - 1))=true
     ·simp only [go_sem,ho0]
      apply hK
      clear hK K
      refine z8 ?_
      refine z6 ?_
      refine ⟨rfl,?_⟩
      rw [show (wrong1 n x)=(true) from by simp [wrong1,ho0]]
      simp only [go_sem]
      refine weA ?_ ?_ <;> simp
     ·simp only [go_sem,ho0]
      refine ⟨_,.lent (hf:=z888 n x.to hp62) (hd:=rfl) (hr:=rfl),?_⟩
      simp only [go_sem,ho0]
      by_cases ho1:(!withinB x.to 0 (n.places - 1))=true
      ·simp only [go_sem,ho0,ho1]
       apply hK
       clear hK K
       refine z8 ?_
       refine z6 ?_
       refine ⟨rfl,?_⟩
       rw [show (wrong1 n x)=(true) from by simp [wrong1,ho0,ho1]]
       simp only [go_sem]
       refine weA ?_ ?_ <;> simp
      ·simp only [go_sem,ho0,ho1]
       by_cases ho2:(x.frm == x.to)=true
       ·simp only [go_sem,ho0,ho1,ho2]
        apply hK
        clear hK K
        refine z8 ?_
        refine z6 ?_
        refine ⟨rfl,?_⟩
        rw [show (wrong1 n x)=(true) from by simp [wrong1,ho0,ho1,ho2]]
        simp only [go_sem]
        refine weA ?_ ?_ <;> simp
       ·simp only [go_sem,ho0,ho1,ho2]
        refine ⟨_,.lent (hf:=z787 x.grade 1 6) (hd:=rfl) (hr:=rfl),?_⟩
        simp only [go_sem,ho0,ho1,ho2]
        by_cases ho3:(!withinB x.grade 1 6)=true
        ·simp only [go_sem,ho0,ho1,ho2,ho3]
         apply hK
         clear hK K
         refine z8 ?_
         refine z6 ?_
         refine ⟨rfl,?_⟩
         rw [show (wrong1 n x)=(true) from by simp [wrong1,ho0,ho1,ho2,ho3]]
         simp only [go_sem]
         refine weA ?_ ?_ <;> simp
        ·simp only [go_sem,ho0,ho1,ho2,ho3]
         refine ⟨_,.lent (hf:=z868 x.time 1 600) (hd:=rfl) (hr:=rfl),?_⟩
         simp only [go_sem,ho0,ho1,ho2,ho3]
         by_cases ho4:(!orderedB x.time 1 600)=true
         ·simp only [go_sem,ho0,ho1,ho2,ho3,ho4]
          apply hK
          clear hK K
          refine z8 ?_
          refine z6 ?_
          refine ⟨rfl,?_⟩
          rw [show (wrong1 n x)=(true) from by simp [wrong1,ho0,ho1,ho2,ho3,ho4]]
          simp only [go_sem]
          refine weA ?_ ?_ <;> simp
         ·simp only [go_sem,ho0,ho1,ho2,ho3,ho4]
          refine ⟨_,.lent (hf:=z868 x.snow 0 30) (hd:=rfl) (hr:=rfl),?_⟩
          simp only [go_sem,ho0,ho1,ho2,ho3,ho4]
          by_cases ho5:(!orderedB x.snow 0 30)=true
          ·simp only [go_sem,ho0,ho1,ho2,ho3,ho4,ho5]
           apply hK
           clear hK K
           refine z8 ?_
           refine z6 ?_
           refine ⟨rfl,?_⟩
           rw [show (wrong1 n x)=(true) from by simp [wrong1,ho0,ho1,ho2,ho3,ho4,ho5]]
           simp only [go_sem]
           refine weA ?_ ?_ <;> simp
          ·simp only [go_sem,ho0,ho1,ho2,ho3,ho4,ho5]
           apply hK
           clear hK K
           refine z8 ?_
           refine z6 ?_
           refine ⟨rfl,?_⟩
           rw [show (wrong1 n x)=(decide ((x.opens.length:Int) > 6)) from by simp [wrong1,ho0,ho1,ho2,ho3,ho4,ho5]]
           simp only [go_sem]
           refine weA ?_ ?_ <;> simp
    simp only [go_sem]
    refine z5 rfl (fun hc1=>?_) (fun hc1=>?_)
    ·repeat (first | refine nx ?_ | (refine z3 fun K hK=>?_;simp only [go_sem];apply hK;clear hK K))
     have hb:badNet n=true:=by rw [hbad];exact z142 hx (by unfold wrongB;rw [hc1];rfl)
     simp only [go_sem,checkF,hb]
    ·repeat (first | refine nx ?_ | (refine z3 fun K hK=>?_;simp only [go_sem];apply hK;clear hK K))
     refine z25 (fun (k:Nat)=>[(5,.d (.i k))]) (fun _=>[]) (fun k=>k≤x.opens.length∧(x.opens.take k).any (fun s=>!orderedB s 0 2880)=false) (fun k=>x.opens.length - k) 0 ?_ ⟨Nat.zero_le _,rfl⟩ ?_
     ·simp only [go_sem]
      refine weA ?_ ?_ <;> simp
     ·intro k ⟨hk,hkall⟩
      simp only [go_sem]
      repeat (first | refine nx ?_ | (refine z3 fun K hK=>?_;simp only [go_sem];apply hK;clear hK K))
      refine z5 rfl (fun hb=>?_) (fun hb=>?_)
      ·have hlk:k<x.opens.length:=by simpa using hb
       have hwk:IntKind.i64.wrap ((k:Int) + 1)=((k + 1:Nat):Int):=by rw [z12 (by omega)];simp
       obtain ⟨s,hs1⟩:∃ s,x.opens[k]?=some s:=⟨_,List.getElem?_eq_getElem hlk⟩
       repeat (first | refine nx ?_ | (refine z3 fun K hK=>?_;simp only [go_sem,hs1,List.getElem?_map,Span.row];(repeat (first | (refine ⟨_,.lent (hf:=z868 s 0 2880) (hd:=rfl) (hr:=rfl),?_⟩;simp only [go_sem,hs1,List.getElem?_map,Span.row]) | (refine ⟨_,.given (hf:=z868 s 0 2880) (hd:=rfl) (ha:=rfl),?_⟩;simp only [go_sem,hs1,List.getElem?_map,Span.row])));apply hK;clear hK K))
       refine z5 rfl (fun hc2=>?_) (fun hc2=>?_)
       ·repeat (first | refine nx ?_ | (refine z3 fun K hK=>?_;simp only [go_sem];apply hK;clear hK K))
        have hb:badNet n=true:=by rw [hbad];exact z142 hx (by unfold wrongB;rw [z142 hs1 hc2];simp)
        simp only [go_sem,checkF,hb]
       ·repeat (first | refine nx ?_ | (refine z3 fun K hK=>?_;simp only [go_sem,hwk];apply hK;clear hK K))
        refine ⟨rfl,k + 1,?_,⟨hlk,z108 hs1 hkall hc2⟩,by omega⟩
        refine weA ?_ ?_ <;> simp
      ·have he:k=x.opens.length:=by (have:¬ k<x.opens.length:=by simpa using hb);omega
       subst he
       rw [List.take_length] at hkall
       repeat (first | refine nx ?_ | (refine z3 fun K hK=>?_;simp only [go_sem,hw];apply hK;clear hK K))
       refine ⟨rfl,i + 1,?_,⟨hlt,z108 hx hall (by unfold wrongB;rw [hc1,hkall];rfl)⟩,by omega⟩
       refine weA ?_ ?_ <;> simp
   ·have he:i=n.paths.length:=by (have:¬ i<n.paths.length:=by simpa using hb);omega
    subst he
    rw [List.take_length] at hall
    repeat (first | refine nx ?_ | (refine z3 fun K hK=>?_;simp only [go_sem];apply hK;clear hK K))
    have hb:badNet n=false:=by rw [hbad,hall]
    simp only [go_sem,checkF,hb]
end Go.Ab
namespace Go.Ab
open Go.RowKit Go.Proofs
set_option maxHeartbeats 4000000
attribute [local irreducible] WalkL Walk
def badParty (p:Party):Bool:=!withinB p.grade 1 6 || (!orderedB p.pace 50 300 || !withinB p.load 0 40)
def checkPartyF (n:Net) (p:Party):Int:=if badNet n then 10 else if badParty p then 11 else 0
theorem z922 (n:Net) (p:Party) (hs:n.Small):Fn Try.prog 56 [.agg n.cells,.agg p.cells] (.i (checkPartyF n p)):=by
 refine z10 27 Try.call56 Try.func56 rfl (by decide) fun J=>?_
 simp only [go_sem,St.start,Try.ntmps56,Try.results56,Net.cells,Party.cells]
 repeat (first | refine nx ?_ | (refine z3 fun K hK=>?_;simp only [go_sem];(repeat (first | (refine ⟨_,.lent (hf:=z850 n hs) (hd:=rfl) (hr:=rfl),?_⟩;simp only [go_sem]) | (refine ⟨_,.given (hf:=z850 n hs) (hd:=rfl) (ha:=rfl),?_⟩;simp only [go_sem])));apply hK;clear hK K))
 by_cases hb:badNet n=true
 ·try simp only [go_sem,checkF,hb]
  refine z7 rfl ?_
  repeat (first | refine nx ?_ | (refine z3 fun K hK=>?_;simp only [go_sem];apply hK;clear hK K))
  simp only [go_sem,checkPartyF,hb]
 ·try simp only [go_sem,checkF,hb]
  refine z4 rfl ?_
  repeat (first | refine nx ?_ | (refine z3 fun K hK=>?_;simp only [go_sem];apply hK;clear hK K))
  refine z41 [(26,.d (.bool (badParty p)))] [] ?_ ?_
  ·refine z3 fun K hK=>?_
   simp only [go_sem]
   refine ⟨_,.lent (hf:=z787 p.grade 1 6) (hd:=rfl) (hr:=rfl),?_⟩
   simp only [go_sem]
   by_cases ho0:(!withinB p.grade 1 6)=true
   ·simp only [go_sem,ho0]
    apply hK
    clear hK K
    refine z8 ?_
    refine z6 ?_
    refine ⟨rfl,?_⟩
    rw [show (badParty p)=(true) from by simp [badParty,ho0]]
    simp only [go_sem]
    refine weA ?_ ?_ <;> simp
   ·simp only [go_sem,ho0]
    refine ⟨_,.lent (hf:=z868 p.pace 50 300) (hd:=rfl) (hr:=rfl),?_⟩
    simp only [go_sem,ho0]
    by_cases ho1:(!orderedB p.pace 50 300)=true
    ·simp only [go_sem,ho0,ho1]
     apply hK
     clear hK K
     refine z8 ?_
     refine z6 ?_
     refine ⟨rfl,?_⟩
     rw [show (badParty p)=(true) from by simp [badParty,ho0,ho1]]
     simp only [go_sem]
     refine weA ?_ ?_ <;> simp
    ·simp only [go_sem,ho0,ho1]
     refine ⟨_,.lent (hf:=z787 p.load 0 40) (hd:=rfl) (hr:=rfl),?_⟩
     simp only [go_sem,ho0,ho1]
     apply hK
     clear hK K
     refine z8 ?_
     refine z6 ?_
     refine ⟨rfl,?_⟩
     rw [show (badParty p)=(!withinB p.load 0 40) from by simp [badParty,ho0,ho1]]
     simp only [go_sem]
     refine weA ?_ ?_ <;> simp
  simp only [go_sem]
  refine z5 rfl (fun hc=>?_) (fun hc=>?_)
  ·repeat (first | refine nx ?_ | (refine z3 fun K hK=>?_;simp only [go_sem];apply hK;clear hK K))
   simp only [go_sem,checkPartyF,hb,hc]
  ·repeat (first | refine nx ?_ | (refine z3 fun K hK=>?_;simp only [go_sem];apply hK;clear hK K))
   simp only [go_sem,checkPartyF,hb,hc]
theorem z916 (n:Net) (p:Party) (hs:n.Small):Fn Try.prog 73 [.agg n.cells,.agg p.cells] (.tup [.agg (walkCells n p),.i (checkPartyF n p)]):=by
 refine z10 35 Try.call73 Try.func73 rfl (by decide) fun J=>?_
 simp only [go_sem,St.start,Try.ntmps73,Try.results73,Net.cells,Party.cells,walkCells]
 repeat (first | refine nx ?_ | (refine z3 fun K hK=>?_;simp only [go_sem];(repeat (first | (refine ⟨_,.lent (hf:=z911 n hs) (hd:=rfl) (hr:=rfl),?_⟩;simp only [go_sem]) | (refine ⟨_,.given (hf:=z911 n hs) (hd:=rfl) (ha:=rfl),?_⟩;simp only [go_sem])));apply hK;clear hK K))
 by_cases hb:badNet n=true
 ·try simp only [go_sem,checkF,hb]
  refine z7 rfl ?_
  repeat (first | refine nx ?_ | (refine z3 fun K hK=>?_;simp only [go_sem];apply hK;clear hK K))
  simp only [go_sem,checkPartyF,hb,walkCells]
 ·try simp only [go_sem,checkF,hb]
  refine z4 rfl ?_
  repeat (first | refine nx ?_ | (refine z3 fun K hK=>?_;simp only [go_sem];apply hK;clear hK K))
  refine z41 [(32,.d (.bool (badParty p)))] [] ?_ ?_
  ·refine z3 fun K hK=>?_
   simp only [go_sem]
   refine ⟨_,.lent (hf:=z788 p.grade 1 6) (hd:=rfl) (hr:=rfl),?_⟩
   simp only [go_sem]
   by_cases ho0:(!withinB p.grade 1 6)=true
   ·simp only [go_sem,ho0]
    apply hK
    clear hK K
    refine z8 ?_
    refine z6 ?_
    refine ⟨rfl,?_⟩
    rw [show (badParty p)=(true) from by simp [badParty,ho0]]
    simp only [go_sem]
    refine weA ?_ ?_ <;> simp
   ·simp only [go_sem,ho0]
    refine ⟨_,.lent (hf:=z869 p.pace 50 300) (hd:=rfl) (hr:=rfl),?_⟩
    simp only [go_sem,ho0]
    by_cases ho1:(!orderedB p.pace 50 300)=true
    ·simp only [go_sem,ho0,ho1]
     apply hK
     clear hK K
     refine z8 ?_
     refine z6 ?_
     refine ⟨rfl,?_⟩
     rw [show (badParty p)=(true) from by simp [badParty,ho0,ho1]]
     simp only [go_sem]
     refine weA ?_ ?_ <;> simp
    ·simp only [go_sem,ho0,ho1]
     refine ⟨_,.lent (hf:=z788 p.load 0 40) (hd:=rfl) (hr:=rfl),?_⟩
     simp only [go_sem,ho0,ho1]
     apply hK
     clear hK K
     refine z8 ?_
     refine z6 ?_
     refine ⟨rfl,?_⟩
     rw [show (badParty p)=(!withinB p.load 0 40) from by simp [badParty,ho0,ho1]]
     simp only [go_sem]
     refine weA ?_ ?_ <;> simp
  simp only [go_sem]
  refine z5 rfl (fun hc=>?_) (fun hc=>?_)
  ·repeat (first | refine nx ?_ | (refine z3 fun K hK=>?_;simp only [go_sem];apply hK;clear hK K))
   simp only [go_sem,checkPartyF,hb,hc,walkCells]
  ·repeat (first | refine nx ?_ | (refine z3 fun K hK=>?_;simp only [go_sem];apply hK;clear hK K))
   simp only [go_sem,checkPartyF,hb,hc,walkCells]
theorem z914 (n:Net) (x:Int) (hn:0≤n.places∧n.places<2 ^ 62):Fn Try.prog 84 [.i x,.ptr n.cells 0] (.bool (!withinB x 0 (n.places - 1))):=by
 refine z10 10 Try.call84 Try.func84 rfl (by decide) fun J=>?_
 simp only [go_sem,St.start,Try.ntmps84,Try.results84,Net.cells]
 have hw:IntKind.i64.wrap (n.places - 1)=n.places - 1:=z12 (by omega)
 repeat (first | refine nx ?_ | (refine z3 fun K hK=>?_;simp only [go_sem,hw];(repeat (first | (refine ⟨_,.lent (hf:=z788 _ _ _) (hd:=rfl) (hr:=rfl),?_⟩;simp only [go_sem,hw]) | (refine ⟨_,.given (hf:=z788 _ _ _) (hd:=rfl) (ha:=rfl),?_⟩;simp only [go_sem,hw])));apply hK;clear hK K))
 simp only [go_sem]
theorem z913 (x:Int):Fn Try.prog 85 [.i x] (.bool (!withinB x 0 2880)):=by
 refine z10 6 Try.call85 Try.func85 rfl (by decide) fun J=>?_
 simp only [go_sem,St.start,Try.ntmps85,Try.results85]
 repeat (first | refine nx ?_ | (refine z3 fun K hK=>?_;simp only [go_sem];(repeat (first | (refine ⟨_,.lent (hf:=z788 _ _ _) (hd:=rfl) (hr:=rfl),?_⟩;simp only [go_sem]) | (refine ⟨_,.given (hf:=z788 _ _ _) (hd:=rfl) (ha:=rfl),?_⟩;simp only [go_sem])));apply hK;clear hK K))
 simp only [go_sem]
def badAsk (n:Net) (places minutes:List Int):Bool:=places.any (fun x=>!withinB x 0 (n.places - 1)) || minutes.any (fun x=>!withinB x 0 2880)
def openF (n:Net) (p:Party) (places minutes:List Int):Int:=if badNet n then 10 else if badParty p then 11 else if badAsk n places minutes then 1 else 0
theorem z587 {n:Net} (h:¬ badNet n=true):1≤n.places∧n.places≤12:=by
 have:badNet n=false:=by simpa using h
 unfold badNet at this
 rw [Bool.or_eq_false_iff] at this
 exact z34.1 (by simpa using this.1)
theorem z892 (n:Net) (p:Party) (places minutes:List Int) (hs:n.Small) (h1:places.length<2 ^ 62) (h2:minutes.length<2 ^ 62) :
  Fn Try.prog 41 [.agg n.cells,.agg p.cells,.agg [.sl (intRows places),.sl (intRows minutes)]] (.tup [.agg (walkCells n p),.i (openF n p places minutes)]):=by
 refine z10 31 Try.call41 Try.func41 rfl (by decide) fun J=>?_
 simp only [go_sem,St.start,Try.ntmps41,Try.results41,Net.cells,Party.cells]
 have h73:=z916 n p hs
 by_cases hb:badNet n=true
 ·repeat (first | refine nx ?_ | (refine z3 fun K hK=>?_;simp only [go_sem,checkPartyF,hb,walkCells];(repeat (first | (refine ⟨_,.lent (hf:=h73) (hd:=rfl) (hr:=rfl),?_⟩;simp only [go_sem,checkPartyF,hb,walkCells]) | (refine ⟨_,.given (hf:=h73) (hd:=rfl) (ha:=rfl),?_⟩;simp only [go_sem,checkPartyF,hb,walkCells])));apply hK;clear hK K))
  try simp only [go_sem,checkPartyF,hb]
  refine z7 rfl ?_
  repeat (first | refine nx ?_ | (refine z3 fun K hK=>?_;simp only [go_sem,walkCells];apply hK;clear hK K))
  simp only [go_sem,openF,hb,walkCells]
 ·by_cases hp:badParty p=true
  ·repeat (first | refine nx ?_ | (refine z3 fun K hK=>?_;simp only [go_sem,checkPartyF,hb,hp,walkCells];(repeat (first | (refine ⟨_,.lent (hf:=h73) (hd:=rfl) (hr:=rfl),?_⟩;simp only [go_sem,checkPartyF,hb,hp,walkCells]) | (refine ⟨_,.given (hf:=h73) (hd:=rfl) (ha:=rfl),?_⟩;simp only [go_sem,checkPartyF,hb,hp,walkCells])));apply hK;clear hK K))
   try simp only [go_sem,checkPartyF,hb,hp]
   refine z7 rfl ?_
   repeat (first | refine nx ?_ | (refine z3 fun K hK=>?_;simp only [go_sem,walkCells];apply hK;clear hK K))
   simp only [go_sem,openF,hb,hp,walkCells]
  ·have hg:=z587 hb
   have h84:=fun x (_:x ∈ places)=>z914 n x (by omega)
   have h85:=fun x (_:x ∈ minutes)=>z913 x
   repeat (first | refine nx ?_ | (refine z3 fun K hK=>?_;simp only [go_sem,checkPartyF,hb,hp,walkCells];(repeat (first | (refine ⟨_,.lent (hf:=h73) (hd:=rfl) (hr:=rfl),?_⟩;simp only [go_sem,checkPartyF,hb,hp,walkCells]) | (refine ⟨_,.given (hf:=h73) (hd:=rfl) (ha:=rfl),?_⟩;simp only [go_sem,checkPartyF,hb,hp,walkCells])));apply hK;clear hK K))
   try simp only [go_sem,checkPartyF,hb,hp,walkCells]
   refine z4 rfl ?_
   repeat (first | refine nx ?_ | (refine z3 fun K hK=>?_;simp only [go_sem];apply hK;clear hK K))
   refine z41 [(28,.d (.bool (badAsk n places minutes)))] [] ?_ ?_
   ·refine z3 fun K hK=>?_
    simp only [go_sem]
    refine ⟨_,.lent (hf:=z904 places 84 [.ptr n.cells 0] _ h84 h1) (hd:=rfl) (hr:=rfl),?_⟩
    simp only [go_sem]
    by_cases ho0:(places.any (fun x=>!withinB x 0 (n.places - 1)))=true
    ·simp only [go_sem,ho0]
     apply hK
     clear hK K
     refine z8 ?_
     refine z6 ?_
     refine ⟨rfl,?_⟩
     rw [show (badAsk n places minutes)=(true) from by simp [badAsk,ho0]]
     simp only [go_sem]
     refine weA ?_ ?_ <;> simp
    ·simp only [go_sem,ho0]
     refine ⟨_,.lent (hf:=z904 minutes 85 [] _ h85 h2) (hd:=rfl) (hr:=rfl),?_⟩
     simp only [go_sem,ho0]
     apply hK
     clear hK K
     refine z8 ?_
     refine z6 ?_
     refine ⟨rfl,?_⟩
     rw [show (badAsk n places minutes)=(minutes.any (fun x=>!withinB x 0 2880)) from by simp [badAsk,ho0]]
     simp only [go_sem]
     refine weA ?_ ?_ <;> simp
   simp only [go_sem]
   refine z5 rfl (fun hc=>?_) (fun hc=>?_)
   ·repeat (first | refine nx ?_ | (refine z3 fun K hK=>?_;simp only [go_sem];apply hK;clear hK K))
    simp only [go_sem,openF,hb,hp,hc,walkCells]
   ·repeat (first | refine nx ?_ | (refine z3 fun K hK=>?_;simp only [go_sem];apply hK;clear hK K))
    simp only [go_sem,openF,hb,hp,hc,walkCells]
theorem z193 {l:List Int} {i:Nat} {x:Int} (h:l[i]?=some x):(intRows l)[i]?=some [.i x]:=by simp [intRows,h]
end Go.Ab
namespace Go.Ab
open Go.RowKit Go.Proofs
set_option maxHeartbeats 4000000
set_option maxRecDepth 20000
attribute [local irreducible] WalkL Walk
def iterL {α:Type} (f:α→α):Nat→α→α
 | 0,a=>a
 | k + 1,a=>f (iterL f k a)
def relaxB (p:Party) (but:Int) (l:List Int) (w:Path × Nat):Bool:=((w.2:Int) != but) && (decide (w.1.grade≤p.grade) && decide (getI l w.1.frm<1073741824))
def relaxT (p:Party) (high:Bool) (but:Int) (l:List Int) (w:Path × Nat):List Int :=
 if relaxB p but l w then l.set w.1.to.toNat (min (getI l w.1.to) (stepF w.1 p (getI l w.1.frm) high)) else l
def passT (n:Net) (p:Party) (high:Bool) (but:Int) (l:List Int):List Int:=n.paths.zipIdx.foldl (relaxT p high but) l
def tableL (n:Net) (p:Party) (frm start:Int) (high:Bool) (but:Int):List Int:=iterL (passT n p high but) n.places.toNat (arrivals0 n frm start)
end Go.Ab
namespace Go.Ab
open Go.RowKit Go.Proofs
set_option maxHeartbeats 4000000
set_option maxRecDepth 20000
attribute [local irreducible] WalkL Walk
def sureF (n:Net) (p:Party) (frm start to but:Int):Int:=getI (tableL n p frm start true but) to
def shown1 (t:Int):Int:=if t ≥ never then -1 else t
def untilL (d:Int) (l:List Int):List Int:=(l.zipIdx.filter fun x=>decide (x.1≤d)).map fun x=>(x.2:Int)
theorem z284 (a b:List Int):intRows a++intRows b=intRows (a++b):=by simp [intRows]
end Go.Ab
namespace Go.Ab
open Go.RowKit Go.Proofs
set_option maxHeartbeats 4000000
set_option maxRecDepth 20000
attribute [local irreducible] WalkL Walk
theorem z101 {s:Span} {lo hi:Int}:orderedB s lo hi=true↔lo≤s.lo∧s.lo≤s.hi∧s.hi≤hi:=by simp [orderedB]
structure Path.Good (n:Net) (x:Path):Prop where
 frm:0≤x.frm∧x.frm<n.places
 to:0≤x.to∧x.to<n.places
 ne:x.frm≠x.to
 grade:1≤x.grade∧x.grade≤6
 time:1≤x.time.lo∧x.time.lo≤x.time.hi∧x.time.hi≤600
 snow:0≤x.snow.lo∧x.snow.lo≤x.snow.hi∧x.snow.hi≤30
 len:x.opens.length≤6
 opens:∀ s ∈ x.opens,0≤s.lo∧s.lo≤s.hi∧s.hi≤2880
structure Net.Good (n:Net):Prop where
 places:1≤n.places∧n.places≤12
 paths:n.paths.length≤24
 path:∀ x ∈ n.paths,x.Good n
theorem z374 {n:Net} {x:Path}:wrongB n x=false↔x.Good n:=by
 unfold wrongB wrong1
 simp only [Bool.or_eq_false_iff,Bool.not_eq_false',z34,z101,beq_eq_false_iff_ne,decide_eq_false_iff_not,List.any_eq_false,Bool.not_eq_true']
 constructor
 ·rintro ⟨⟨h1,h2,h3,h4,h5,h6,h7⟩,h8⟩
  exact ⟨by omega,by omega,h3,h4,h5,h6,by omega,fun s hs=>z101.1 (by simpa using h8 s hs)⟩
 ·rintro ⟨h1,h2,h3,h4,h5,h6,h7,h8⟩
  exact ⟨⟨by omega,by omega,h3,h4,h5,h6,by omega⟩,fun s hs=>by simpa using z101.2 (h8 s hs)⟩
theorem z176 {n:Net}:¬ badNet n=true↔n.Good:=by
 have e:¬ badNet n=true↔badNet n=false:=by simp
 rw [e]
 unfold badNet
 simp only [Bool.or_eq_false_iff,Bool.not_eq_false',z34,decide_eq_false_iff_not,List.any_eq_false]
 constructor
 ·rintro ⟨h1,h2,h3⟩
  exact ⟨h1,by omega,fun x hx=>z374.1 (by simpa using h3 x hx)⟩
 ·rintro ⟨h1,h2,h3⟩
  exact ⟨h1,by omega,fun x hx=>by simpa using z374.2 (h3 x hx)⟩
theorem Net.Good.ok {n:Net} (h:n.Good):n.Ok :=
 ⟨by have:=h.places;omega,by have:=h.paths;omega,fun x hx=>(h.path x hx).frm,fun x hx=>(h.path x hx).to,fun x hx=>by have:=(h.path x hx).len;omega⟩
theorem Net.Good.hi {n:Net} (h:n.Good):∀ x ∈ n.paths,∀ s ∈ x.opens,s.hi≤2880:=fun x hx s hs=>((h.path x hx).opens s hs).2.2
structure Party.Good (p:Party):Prop where
 grade:1≤p.grade∧p.grade≤6
 pace:50≤p.pace.lo∧p.pace.lo≤p.pace.hi∧p.pace.hi≤300
 load:0≤p.load∧p.load≤40
theorem z165 {p:Party}:¬ badParty p=true↔p.Good:=by
 have e:¬ badParty p=true↔badParty p=false:=by simp
 rw [e]
 unfold badParty
 simp only [Bool.or_eq_false_iff,Bool.not_eq_false',z34,z101]
 exact ⟨fun ⟨h1,h2,h3⟩=>⟨h1,h2,h3⟩,fun ⟨h1,h2,h3⟩=>⟨h1,h2,h3⟩⟩
structure Opened (n:Net) (p:Party) (places minutes:List Int):Prop where
 net:n.Good
 party:p.Good
 place:∀ x ∈ places,0≤x∧x<n.places
 minute:∀ x ∈ minutes,0≤x∧x≤2880
theorem z601 {n:Net} {places minutes:List Int}:¬ badAsk n places minutes=true↔(∀ x ∈ places,0≤x∧x<n.places)∧∀ x ∈ minutes,0≤x∧x≤2880:=by
 have e:¬ badAsk n places minutes=true↔badAsk n places minutes=false:=by simp
 rw [e]
 unfold badAsk
 simp only [Bool.or_eq_false_iff,List.any_eq_false]
 constructor
 ·rintro ⟨h1,h2⟩
  exact ⟨fun x hx=>by have:=z34.1 (by simpa using h1 x hx);omega,fun x hx=>z34.1 (by simpa using h2 x hx)⟩
 ·rintro ⟨h1,h2⟩
  exact ⟨fun x hx=>by simpa using z34.2 (by have:=h1 x hx;omega),fun x hx=>by simpa using z34.2 (h2 x hx)⟩
theorem z212 {n:Net} {p:Party} {places minutes:List Int}:openF n p places minutes=0↔Opened n p places minutes:=by
 unfold openF
 constructor
 ·intro h
  split at h
  ·cases h
  ·rename_i h1
   split at h
   ·cases h
   ·rename_i h2
    split at h
    ·cases h
    ·rename_i h3
     exact ⟨z176.1 h1,z165.1 h2,(z601.1 h3).1,(z601.1 h3).2⟩
 ·rintro ⟨h1,h2,h3,h4⟩
  rw [if_neg (z176.2 h1),if_neg (z165.2 h2),if_neg (z601.2 ⟨h3,h4⟩)]
theorem z617 (n:Net) (p:Party) (q:Span→Int) (but:Int):∀ (k:Nat) (l:List Int),(fixA n p q but k l).length=l.length
 | 0,_=>rfl
 | k + 1,l=>by
  unfold fixA
  split
  ·rw [z617 n p q but k,passA,z120]
  ·rw [passA,z120]
theorem z56 (n:Net) (p:Party) (q:Span→Int) (frm start but:Int):(arrivalsL n p q frm start but).length=n.places.toNat:=by
 rw [arrivalsL,z617];simp [arrivals0]
theorem z616 (n:Net) (p:Party):∀ (k:Nat) (l:List Int),(fixD n p k l).length=l.length
 | 0,_=>rfl
 | k + 1,l=>by
  unfold fixD
  split
  ·rw [z616 n p k,passD,z119]
  ·rw [passD,z119]
theorem z367 (n:Net) (p:Party) (to b:Int):(deadlinesL n p to b).length=n.places.toNat:=by
 rw [deadlinesL,z616];simp [deadlines0]
def spanHi (s:Span):Int:=s.hi
def spanLo (s:Span):Int:=s.lo
def arriveL (n:Net) (p:Party) (frm start:Int):List Int × List Int × Int :=
 if openF n p [frm] [start]=0 then ((arrivalsL n p spanHi frm start (-1)).map told1,(arrivalsL n p spanLo frm start (-1)).map told1,0) else ([],[],openF n p [frm] [start])
theorem z893 (n:Net) (p:Party) (frm start:Int) (hs:n.Small):Fn Try.prog 21 [.agg n.cells,.agg p.cells,.i frm,.i start]
  (.tup [.sl (intRows (arriveL n p frm start).1),.sl (intRows (arriveL n p frm start).2.1),.i (arriveL n p frm start).2.2]):=by
 have h41:=z892 n p [frm] [start] hs (by simp) (by simp)
 refine z10 36 Try.call21 Try.func21 rfl (by decide) fun J=>?_
 simp only [go_sem,St.start,Try.ntmps21,Try.results21,Net.cells,Party.cells]
 repeat (first | refine nx ?_ | (refine z3 fun K hK=>?_;simp only [go_sem,walkCells];(repeat (first | (refine ⟨_,.lent (hf:=h41) (hd:=rfl) (hr:=rfl),?_⟩;simp only [go_sem,walkCells]) | (refine ⟨_,.given (hf:=h41) (hd:=rfl) (ha:=rfl),?_⟩;simp only [go_sem,walkCells])));apply hK;clear hK K))
 refine z5 rfl (fun hc=>?_) (fun hc=>?_)
 ·have hc:¬ openF n p [frm] [start]=0:=by simpa using hc
  repeat (first | refine nx ?_ | (refine z3 fun K hK=>?_;simp only [go_sem];apply hK;clear hK K))
  simp only [go_sem,arriveL,hc]
  rfl
 ·have hc:openF n p [frm] [start]=0:=by simpa using hc
  have ho:=z212.1 hc
  have hfr:=ho.place frm (by simp)
  have hpl:=ho.net.places
  have h42:=z891 n p frm start (-1) 43 spanHi (fun s=>z909 s) ho.net.ok hfr
  have h42':=z891 n p frm start (-1) 60 spanLo (fun s=>z921 s) ho.net.ok hfr
  have h59:=z907 (arrivalsL n p spanHi frm start (-1)) (by rw [z56];omega)
  have h59':=z907 (arrivalsL n p spanLo frm start (-1)) (by rw [z56];omega)
  repeat (first | refine nx ?_ | (refine z3 fun K hK=>?_;simp only [go_sem];apply hK;clear hK K))
  refine z15 (by kernel_rfl) (by kernel_rfl) fun K hK=>?_
  simp only [go_sem]
  refine ⟨_,.fnS (hdst:=rfl) (hf:=h42) (hd:=rfl) (hr:=.inr rfl) (hfr:=rfl),?_⟩
  simp only [go_sem]
  refine ⟨_,.inPlace (n:=29) (hf:=h59) (hn:=rfl) (hb:=rfl) (hla:=rfl) (ha:=z372 (by repeat (first | exact trivial | refine And.intro ?_ ?_ | exact z627 rfl | exact z487 rfl rfl))) (hx:=by first | decide | simp [AV.refsAll,AV.refs,AV.refs.AV.refss]),?_⟩
  simp only [go_sem]
  refine ⟨_,.fnS (hdst:=rfl) (hf:=h42') (hd:=rfl) (hr:=.inr rfl) (hfr:=rfl),?_⟩
  simp only [go_sem]
  refine ⟨_,.inPlace (n:=34) (hf:=h59') (hn:=rfl) (hb:=rfl) (hla:=rfl) (ha:=z372 (by repeat (first | exact trivial | refine And.intro ?_ ?_ | exact z627 rfl | exact z487 rfl rfl))) (hx:=by first | decide | simp [AV.refsAll,AV.refs,AV.refs.AV.refss]),?_⟩
  simp only [go_sem]
  refine ⟨by kernel_rfl,hK _ ?_⟩
  clear hK K
  repeat (first | refine nx ?_ | (refine z3 fun K hK=>?_;simp only [go_sem];apply hK;clear hK K))
  simp only [go_sem,arriveL,hc]
end Go.Ab
namespace Go.Ab
open Go.RowKit Go.Proofs
set_option maxHeartbeats 4000000
set_option maxRecDepth 20000
attribute [local irreducible] WalkL Walk
def refArriveL (n:Net) (p:Party) (frm start:Int):List Int × List Int × Int :=
 if openF n p [frm] [start]=0 then ((tableL n p frm start true (-1)).map shown1,(tableL n p frm start false (-1)).map shown1,0) else ([],[],openF n p [frm] [start])
def latestL (n:Net) (p:Party) (frm to deadline:Int):Int × Int :=
 if openF n p [frm,to] [deadline]=0 then (if getI (deadlinesL n p to deadline) frm=-1 then (0,3) else (getI (deadlinesL n p to deadline) frm,0)) else (0,openF n p [frm,to] [deadline])
theorem z930 (n:Net) (p:Party) (frm to deadline:Int) (hs:n.Small):Fn Try.prog 18 [.agg n.cells,.agg p.cells,.i frm,.i to,.i deadline]
  (.tup [.i (latestL n p frm to deadline).1,.i (latestL n p frm to deadline).2]):=by
 have h41:=z892 n p [frm,to] [deadline] hs (by simp) (by simp)
 refine z10 40 Try.call18 Try.func18 rfl (by decide) fun J=>?_
 simp only [go_sem,St.start,Try.ntmps18,Try.results18,Net.cells,Party.cells]
 repeat (first | refine nx ?_ | (refine z3 fun K hK=>?_;simp only [go_sem,walkCells];(repeat (first | (refine ⟨_,.lent (hf:=h41) (hd:=rfl) (hr:=rfl),?_⟩;simp only [go_sem,walkCells]) | (refine ⟨_,.given (hf:=h41) (hd:=rfl) (ha:=rfl),?_⟩;simp only [go_sem,walkCells])));apply hK;clear hK K))
 refine z5 rfl (fun hc=>?_) (fun hc=>?_)
 ·have hc:¬ openF n p [frm,to] [deadline]=0:=by simpa using hc
  repeat (first | refine nx ?_ | (refine z3 fun K hK=>?_;simp only [go_sem];apply hK;clear hK K))
  simp only [go_sem,latestL,hc]
 ·have hop:openF n p [frm,to] [deadline]=0:=by simpa using hc
  have ho:=z212.1 hop
  have hfr:=ho.place frm (by simp)
  have hto:=ho.place to (by simp)
  have hpl:=ho.net.places
  have h54:=z923 n p to deadline ho.net.ok ho.net.hi hto
  have hlen:=z367 n p to deadline
  have hg:(intRows (deadlinesL n p to deadline))[frm.toNat]?=some [.i (getI (deadlinesL n p to deadline) frm)]:=z36 hfr.1 (by omega)
  have hlt:frm.toNat<(intRows (deadlinesL n p to deadline)).length:=by rw [z21];omega
  repeat (first | refine nx ?_ | (refine z3 fun K hK=>?_;simp only [go_sem];apply hK;clear hK K))
  refine z3 fun K hK=>?_
  simp only [go_sem]
  refine ⟨_,.lentS (hdst:=rfl) (hf:=h54) (hd:=rfl) (hr:=by first | exact z73 _ | exact rowsFlat_hour _ | exact rowsFlat_sight _ | exact rowsFlat_sky _ | exact rowsFlat_span _ | exact rowsFlat_bool _) (hfr:=rfl),?_⟩
  simp only [go_sem,hg,hlt,hfr.1]
  apply hK
  clear hK K
  repeat (first | refine nx ?_ | (refine z3 fun K hK=>?_;simp only [go_sem];apply hK;clear hK K))
  refine z5 rfl (fun hc=>?_) (fun hc=>?_)
  ·have hc2:getI (deadlinesL n p to deadline) frm=-1:=by simpa using hc
   repeat (first | refine nx ?_ | (refine z3 fun K hK=>?_;simp only [go_sem];apply hK;clear hK K))
   simp only [go_sem,latestL,hop,hc2]
  ·have hc2:¬ getI (deadlinesL n p to deadline) frm=-1:=by simpa using hc
   repeat (first | refine nx ?_ | (refine z3 fun K hK=>?_;simp only [go_sem];apply hK;clear hK K))
   simp only [go_sem,latestL,hop,hc2]
def findDown (q:Int→Bool):Nat→Option Nat
 | 0=>none
 | k + 1=>if q k then some k else findDown q k
def refLatestL (n:Net) (p:Party) (frm to deadline:Int):Int × Int :=
 if openF n p [frm,to] [deadline]=0 then (match findDown (fun t=>decide (sureF n p frm t to (-1)≤deadline)) (deadline + 1).toNat with
  | some t=>((t:Int),0)
  | none=>(0,3)) else (0,openF n p [frm,to] [deadline])
end Go.Ab
namespace Go.Ab
open Go.RowKit Go.Proofs
set_option maxHeartbeats 4000000
set_option maxRecDepth 20000
attribute [local irreducible] WalkL Walk
def walkF (n:Net) (p:Party) (i:Int):Span × Int :=
 if checkPartyF n p=0 then (if withinB i 0 (n.paths.length - 1) then (match n.paths[i.toNat]? with
  | some x=>if x.grade≤p.grade then (spanW x p,0) else (⟨0,0⟩,3)
  | none=>(⟨0,0⟩,1)) else (⟨0,0⟩,1)) else (⟨0,0⟩,checkPartyF n p)
def selL (q:Nat→Bool) (k:Nat):List Int:=((List.range k).filter q).map fun (i:Nat)=>(i:Int)
def vitalL (n:Net) (p:Party) (frm start to deadline:Int):List Int × Int :=
 if openF n p [frm,to] [start,deadline]=0 then (if getI (arrivalsL n p spanHi frm start (-1)) to > deadline then ([],3) else (selL (fun (i:Nat)=>decide (getI (arrivalsL n p spanHi frm start (i:Int)) to > deadline)) n.paths.length,0))
 else ([],openF n p [frm,to] [start,deadline])
def refVitalL (n:Net) (p:Party) (frm start to deadline:Int):List Int × Int :=
 if openF n p [frm,to] [start,deadline]=0 then (if sureF n p frm start to (-1) > deadline then ([],3) else (selL (fun (i:Nat)=>decide (sureF n p frm start to (i:Int) > deadline)) n.paths.length,0))
 else ([],openF n p [frm,to] [start,deadline])
def withinL (n:Net) (p:Party) (frm start deadline:Int):List Int × List Int × Int :=
 if openF n p [frm] [start,deadline]=0 then (untilL deadline (arrivalsL n p spanHi frm start (-1)),untilL deadline (arrivalsL n p spanLo frm start (-1)),0) else ([],[],openF n p [frm] [start,deadline])
def refWithinL (n:Net) (p:Party) (frm start deadline:Int):List Int × List Int × Int :=
 if openF n p [frm] [start,deadline]=0 then (untilL deadline (tableL n p frm start true (-1)),untilL deadline (tableL n p frm start false (-1)),0) else ([],[],openF n p [frm] [start,deadline])
end Go.Ab
namespace Go.Ab
open Go.RowKit Go.Proofs
set_option maxHeartbeats 4000000
set_option maxRecDepth 20000
attribute [local irreducible] WalkL Walk
theorem z871 (c:Int) (m:Nat) (h:m<2 ^ 30):FnS Try.prog 47 [.sl [[.i c]],.i m] 3 1 (intRows (List.replicate m c)):=by
 rw [← z62];exact z890 c m h
def relaxS (p:Party) (now next:List Int) (w:Nat × Path):List Int :=
 if getI now w.2.frm=never then next else next.set w.2.to.toNat (min (getI next w.2.to) (arriveF w.2.opens (getI now w.2.frm) (spanW w.2 p).hi))
def nextS (n:Net) (p:Party) (now:List Int):List Int:=(waysL n p (-1)).foldl (relaxS p now) (List.replicate n.places.toNat never)
def nowS (n:Net) (p:Party) (frm start:Int) (k:Nat):List Int:=iterL (nextS n p) k (arrivals0 n frm start)
def stepsL (n:Net) (p:Party) (frm start:Int) (k:Nat):List (List Int):=(List.range (k + 1)).map (nowS n p frm start)
theorem z686 (p:Party) (now next:List Int) (w:Nat × Path):(relaxS p now next w).length=next.length:=by unfold relaxS;split <;> simp
theorem z243 (p:Party) (now:List Int):∀ (ws:List (Nat × Path)) (l:List Int),(ws.foldl (relaxS p now) l).length=l.length
 | [],_=>rfl
 | w::ws,l=>by rw [List.foldl_cons,z243 p now ws,z686]
theorem z756 (n:Net) (p:Party) (now:List Int):(nextS n p now).length=n.places.toNat:=by rw [nextS,z243];simp
theorem z611 (n:Net) (p:Party) (frm start:Int):∀ k,(nowS n p frm start k).length=n.places.toNat
 | 0=>by simp [nowS,iterL,arrivals0]
 | k + 1=>z756 n p _
def slRows (ls:List (List Int)):List (List DV):=ls.map fun l=>[.sl (intRows l)]
theorem z561 (n:Net) (p:Party) (frm start:Int) (k:Nat):slRows (stepsL n p frm start (k + 1))=slRows (stepsL n p frm start k)++[[.sl (intRows (nextS n p (nowS n p frm start k)))]]:=by
 simp only [slRows,stepsL]
 rw [List.range_succ (n:=k + 1),List.map_append,List.map_append]
 rfl
theorem z925 (n:Net) (p:Party) (frm start:Int) (hn:n.Ok) (h1:1≤n.places) (hfr:0≤frm∧frm<n.places) :
  FnS Try.prog 45 [.agg (walkCells n p),.i frm,.i start] 29 1 (slRows (stepsL n p frm start (n.places.toNat - 1))):=by
 obtain ⟨m,hm⟩:∃ m:Nat,n.places=m:=⟨n.places.toNat,by have:=hn.places.1;omega⟩
 have hpl:=hn.places
 have htn:n.places.toNat=m:=by omega
 have h47:FnS Try.prog 47 [.sl [[.i never]],.i n.places] 3 1 (intRows (List.replicate m never)):=by rw [hm];exact z871 never m (by omega)
 have hw1:IntKind.i64.wrap (n.places - 1)=n.places - 1:=z12 (by omega)
 have hlt:frm.toNat<m:=by omega
 have hg:(intRows (List.replicate m never))[frm.toNat]?=some [.i never]:=by simp [intRows,hlt]
 have hrl:(intRows (List.replicate m never)).length=m:=by simp [intRows]
 have hset:(List.replicate m never).set frm.toNat start=nowS n p frm start 0:=by rw [nowS,iterL,arrivals0,hm];rfl
 have hg0:(intRows (nowS n p frm start 0))[frm.toNat]?=some [.i start]:=by rw [← hset];simp [intRows,hlt]
 refine z215 73 Try.call45 Try.func45 rfl (by decide) fun J=>?_
 simp only [go_sem,St.start,Try.ntmps45,Try.results45,walkCells]
 repeat (first | refine nx ?_ | (refine z3 fun K hK=>?_;simp only [go_sem];apply hK;clear hK K))
 refine z3 fun K hK=>?_
 simp only [go_sem]
 refine ⟨_,.lentS (hdst:=rfl) (hf:=h47) (hd:=rfl) (hr:=by first | exact z73 _ | exact rowsFlat_hour _ | exact rowsFlat_sight _ | exact rowsFlat_sky _ | exact rowsFlat_span _ | exact rowsFlat_bool _) (hfr:=rfl),?_⟩
 simp only [go_sem]
 apply hK
 clear hK K
 repeat (first | refine nx ?_ | (refine z3 fun K hK=>?_;simp only [go_sem,hlt,hg,hrl,hfr.1,z42,hset,hw1,hg0];apply hK;clear hK K))
 refine z25 (fun (k:Nat)=>[(27,.d (.i k)),(8,.own 22),(22,.undef)]) (fun k=>[(7,some (.box [.d (.sl (intRows (nowS n p frm start k)))])),(22,some (.arr 29 1 (slRows (stepsL n p frm start k))))]) (fun k=>k≤m - 1) (fun k=>m - 1 - k) 0 ?_ (Nat.zero_le _) ?_
 ·simp only [go_sem]
  refine weA ?_ ?_ <;> simp
  rfl
 ·intro k hk
  obtain ⟨now,hnow⟩:∃ now,now=nowS n p frm start k:=⟨_,rfl⟩
  have hnl:now.length=m:=by rw [hnow,z611];exact htn
  have hsn:=z561 n p frm start k
  rw [← hnow] at hsn ⊢
  obtain ⟨rows,hrows⟩:∃ rows,rows=slRows (stepsL n p frm start k):=⟨_,rfl⟩
  have hrowl:rows.length=k + 1:=by rw [hrows];simp [slRows,stepsL]
  rw [← hrows] at hsn ⊢
  simp only [go_sem]
  repeat (first | refine nx ?_ | (refine z3 fun K hK=>?_;simp only [go_sem];apply hK;clear hK K))
  refine z5 rfl (fun hb=>?_) (fun hb=>?_)
  ·have hb:(k:Int)<n.places - 1:=by simpa using hb
   have hlk:k<m - 1:=by omega
   have hw:IntKind.i64.wrap ((k:Int) + 1)=((k + 1:Nat):Int):=by rw [z12 (by omega)];simp
   repeat (first | refine nx ?_ | (refine z3 fun K hK=>?_;simp only [go_sem];apply hK;clear hK K))
   refine z3 fun K hK=>?_
   simp only [go_sem]
   refine ⟨_,.lentS (hdst:=rfl) (hf:=h47) (hd:=rfl) (hr:=by first | exact z73 _ | exact rowsFlat_hour _ | exact rowsFlat_sight _ | exact rowsFlat_sky _ | exact rowsFlat_span _ | exact rowsFlat_bool _) (hfr:=rfl),?_⟩
   simp only [go_sem]
   apply hK
   clear hK K
   repeat (first | refine nx ?_ | (refine z3 fun K hK=>?_;simp only [go_sem];(repeat (first | (refine ⟨_,.lent (hf:=z842 n p (-1)) (hd:=rfl) (hr:=rfl),?_⟩;simp only [go_sem]) | (refine ⟨_,.given (hf:=z842 n p (-1)) (hd:=rfl) (ha:=rfl),?_⟩;simp only [go_sem])));apply hK;clear hK K))
   refine z71 (g:=.tmp 35) rfl (z453 n p (-1) (by have:=hn.paths;omega)) (by intro row hr;obtain ⟨w,_,rfl⟩:=List.mem_map.1 hr;rfl) (fun _=>[]) (fun (a:List Int)=>[(33,some (.arr 3 1 (intRows a)))])
    (fun i a=>a=((waysL n p (-1)).take i).foldl (relaxS p now) (List.replicate m never)) (fun _ _=>False) (List.replicate m never) ?_ rfl ?_ ?_ (fun _ _ h=>h.elim)
   ·simp only [go_sem]
    refine weA ?_ ?_ <;> simp
   ·intro i a row hi ha l2 m2
    simp only [List.getElem?_map,Option.map_eq_some_iff] at hi
    obtain ⟨w,hw1,rfl⟩:=hi
    have hx:=z70 (List.mem_of_getElem? hw1)
    have hmem:=List.mem_of_getElem? hx
    have hlen:a.length=m:=by rw [ha,z243];simp
    have hf:=hn.frm w.2 hmem
    have ht:=hn.to w.2 hmem
    have g1:(intRows a)[w.2.to.toNat]?=some [.i (getI a w.2.to)]:=z36 ht.1 (by omega)
    have g2:(intRows now)[w.2.frm.toNat]?=some [.i (getI now w.2.frm)]:=z36 hf.1 (by omega)
    have g3:w.2.to.toNat<(intRows a).length:=by rw [z21];omega
    have g4:w.2.frm.toNat<(intRows now).length:=by rw [z21];omega
    have h50:=z889 n p w.1 w.2 (getI now w.2.frm) (spanW w.2 p).hi hx (by have:=hn.opens w.2 hmem;omega)
    have h51:=z870 n p w.1 w.2 hx
    have hnext:((waysL n p (-1)).take (i + 1)).foldl (relaxS p now) (List.replicate m never)=relaxS p now a w:=by rw [ha];exact z40 _ _ _ _ _ hw1
    simp only [go_sem,wayRow,Path.row]
    repeat (first | refine nx ?_ | (refine z3 fun K hK=>?_;simp only [go_sem,g1,g2,g3,g4,ht.1,hf.1];apply hK;clear hK K))
    refine z5 rfl (fun hc=>?_) (fun hc=>?_)
    ·have hnv:¬ getI now w.2.frm=never:=by intro e;rw [e] at hc;simp [never] at hc
     repeat (first | refine nx ?_ | (refine z3 fun K hK=>?_;simp only [go_sem];apply hK;clear hK K))
     refine z15 (by kernel_rfl) (by kernel_rfl) fun K hK=>?_
     simp only [go_sem,g1,g2,g3,g4,ht.1,hf.1]
     refine ⟨_,.fn (hf:=h51) (hd:=rfl) (hr:=.inl rfl),?_⟩
     simp only [go_sem,Span.row,g1,g2,g3,g4,ht.1,hf.1]
     refine ⟨_,.fn (hf:=h50) (hd:=rfl) (hr:=.inl rfl),?_⟩
     simp only [go_sem,g1,g2,g3,g4,ht.1,hf.1]
     refine ⟨by kernel_rfl,hK _ ?_⟩
     clear hK K
     repeat (first | refine nx ?_ | (refine z3 fun K hK=>?_;simp only [go_sem];apply hK;clear hK K))
     refine ⟨rfl,relaxS p now a w,?_,hnext.symm⟩
     rw [relaxS,if_neg hnv,← z42]
     simp only [go_sem]
     refine weA ?_ ?_ <;> simp
    ·have hcv:getI now w.2.frm=never:=by simpa [never] using hc
     repeat (first | refine nx ?_ | (refine z3 fun K hK=>?_;simp only [go_sem];apply hK;clear hK K))
     refine ⟨rfl,relaxS p now a w,?_,hnext.symm⟩
     rw [relaxS,if_pos hcv]
     simp only [go_sem]
     refine weA ?_ ?_ <;> simp
   ·intro a ha
    rw [List.length_map,List.take_length] at ha
    have ha:a=nextS n p now:=by rw [ha,nextS,htn]
    have hfit:rows.length + 1≤549755813888:=by omega
    simp only [go_sem]
    repeat (first | refine nx ?_ | (refine z3 fun K hK=>?_;simp only [go_sem,hfit,hw];apply hK;clear hK K))
    have hnow1:nowS n p frm start (k + 1)=a:=by rw [ha,hnow];rfl
    refine ⟨rfl,k + 1,?_,by omega,by omega⟩
    rw [hnow1,hsn,← ha]
    refine weA ?_ ?_ <;> simp
  ·have he:k=m - 1:=by (have:¬ (k:Int)<n.places - 1:=by simpa using hb);omega
   subst he
   repeat (first | refine nx ?_ | (refine z3 fun K hK=>?_;simp only [go_sem];apply hK;clear hK K))
   simp only [go_sem,hrows,htn]
end Go.Ab
namespace Go.Ab
open Go.RowKit Go.Proofs
set_option maxHeartbeats 8000000
set_option maxRecDepth 40000
attribute [local irreducible] WalkL Walk
theorem z924 (l:List Int) (to arr:Int) (h:0≤to∧to.toNat<l.length):Fn Try.prog 46 [.sl (intRows l),.ptr [.i to] 0,.ptr [.i arr] 0] (.bool (getI l to == arr)):=by
 have hg:(intRows l)[to.toNat]?=some [.i (getI l to)]:=z36 h.1 h.2
 refine z10 11 Try.call46 Try.func46 rfl (by decide) fun J=>?_
 simp only [go_sem,St.start,Try.ntmps46,Try.results46]
 repeat (first | refine nx ?_ | (refine z3 fun K hK=>?_;simp only [go_sem];apply hK;clear hK K))
 refine z15 (by kernel_rfl) (by kernel_rfl) fun K hK=>?_
 simp only [go_sem,hg,h.1]
 refine ⟨by kernel_rfl,hK _ ?_⟩
 clear hK K
 repeat (first | refine nx ?_ | (refine z3 fun K hK=>?_;simp only [go_sem];apply hK;clear hK K))
 simp only [go_sem]
def relaxBy (p:Party) (cur next:List Int) (w:Nat × Path):List Int :=
 next.set w.2.frm.toNat (max (getI next w.2.frm) (latestF w.2.opens (wr (getI cur w.2.to - (spanW w.2 p).hi))))
def byNext (n:Net) (p:Party) (cur:List Int):List Int:=(waysL n p (-1)).foldl (relaxBy p cur) (List.replicate n.places.toNat (-1))
def byL (n:Net) (p:Party) (to arr:Int) (k:Nat):List Int:=iterL (byNext n p) k (deadlines0 n to arr)
theorem z570 (p:Party) (cur next:List Int) (w:Nat × Path):(relaxBy p cur next w).length=next.length:=by unfold relaxBy;simp
theorem z194 (p:Party) (cur:List Int):∀ (ws:List (Nat × Path)) (l:List Int),(ws.foldl (relaxBy p cur) l).length=l.length
 | [],_=>rfl
 | w::ws,l=>by rw [List.foldl_cons,z194 p cur ws,z570]
theorem z710 (n:Net) (p:Party) (cur:List Int):(byNext n p cur).length=n.places.toNat:=by rw [byNext,z194];simp
theorem z778 (n:Net) (p:Party) (to arr:Int):∀ k,(byL n p to arr k).length=n.places.toNat
 | 0=>by simp [byL,iterL,deadlines0]
 | k + 1=>z710 n p _
abbrev RSt:=List Int × Int × Int
def fitsR (p:Party) (cur:List Int) (s:RSt) (w:Nat × Path):Bool:=(w.2.frm == s.2.1) && decide (arriveF w.2.opens s.2.2 (spanW w.2 p).hi≤getI cur w.2.to)
def stepR (n:Net) (p:Party) (cur:List Int) (s:RSt):RSt:=match (waysL n p (-1)).find? (fitsR p cur s) with
 | some w=>(s.1++[(w.1:Int)],w.2.to,arriveF w.2.opens s.2.2 (spanW w.2 p).hi)
 | none=>s
def routeD (n:Net) (p:Party) (to arr:Int):Nat→RSt→RSt
 | 0,s=>s
 | k + 1,s=>routeD n p to arr k (stepR n p (byL n p to arr k) s)
def fewest (n:Net) (p:Party) (frm start to arr:Int):Int:=idxFrom (fun l=>getI l to == arr) (stepsL n p frm start (n.places.toNat - 1)) 0
def routeL (n:Net) (p:Party) (frm start to:Int):List Int × Int × Int :=
 if openF n p [frm,to] [start]=0 then
  (let arr:=getI (arrivalsL n p spanHi frm start (-1)) to
   if arr=never then ([],0,3) else ((routeD n p to arr (fewest n p frm start to arr).toNat ([],frm,start)).1,arr,0))
 else ([],0,openF n p [frm,to] [start])
def bySt (n:Net) (p:Party) (to arr:Int) (k:Nat):List (Option Blk):=(List.range (k + 1)).map fun i=>some (.arr 3 1 (intRows (byL n p to arr i)))
def byRow (K k:Nat):List AV:=(List.range (k + 1)).map (fun i=>AV.own (i + 162))++List.replicate (K - k) (.d (.sl []))
theorem z16 (n:Net) (p:Party) (to arr:Int) (k:Nat):(bySt n p to arr k).length=k + 1:=by simp [bySt]
theorem z19 (n:Net) (p:Party) (to arr:Int) (k:Nat):(bySt n p to arr k).all Option.isSome=true:=by simp [bySt]
theorem z623 (n:Net) (p:Party) (to arr:Int) (k i:Nat) (h:i≤k):(bySt n p to arr k)[i]?=some (some (.arr 3 1 (intRows (byL n p to arr i)))):=by
 simp [bySt,show i<k + 1 by omega]
theorem z836 (n:Net) (p:Party) (to arr:Int) (k:Nat) (h:Nat→Option Nat):(bySt n p to arr k).map (Option.map (Blk.mapN h))=bySt n p to arr k:=by
 simp [bySt,Blk.mapN]
theorem z776 (n:Net) (p:Party) (to arr:Int) (k:Nat):bySt n p to arr (k + 1)=bySt n p to arr k++[some (.arr 3 1 (intRows (byNext n p (byL n p to arr k))))]:=by
 rw [bySt,List.range_succ,List.map_append];rfl
theorem z247 (K k:Nat) (h:k≤K):(byRow K k).length=K + 1:=by simp [byRow];omega
theorem z181 (K k i:Nat) (h:i≤k):(byRow K k)[i]?=some (.own (i + 162)):=by
 unfold byRow
 rw [List.getElem?_append_left (by simp;omega)]
 simp [show i<k + 1 by omega]
theorem z709 (K k:Nat) (h:k<K):((byRow K k).take (k + 1)++(AV.own 82::(byRow K k).drop (k + 1 + 1))).map (AV.mapN (mv 82 (k + 1 + 162)))=byRow K (k + 1):=by
 have h1:(byRow K k).take (k + 1)=(List.range (k + 1)).map fun i=>AV.own (i + 162):=by
  unfold byRow;exact List.take_left' (by simp)
 have h2:(byRow K k).drop (k + 1 + 1)=List.replicate (K - (k + 1)) (.d (.sl [])):=by
  unfold byRow
  rw [List.drop_append]
  simp only [List.length_map,List.length_range,List.drop_replicate]
  rw [List.drop_eq_nil_of_le (by simp),List.nil_append]
  congr 1
  omega
 rw [h1,h2]
 rw [List.map_append,List.map_map,List.map_cons,List.map_replicate]
 simp only [AV.mapN]
 have e:mv 82 (k + 1 + 162) 82=some (k + 1 + 162):=by simp [mv]
 rw [e]
 unfold byRow
 rw [List.range_succ (n:=k + 1),List.map_append,List.append_assoc]
 congr 1
theorem z137 {news:List Nat}:∀ {m:List (Option Blk)} {i:Nat},(∀ n ∈ news,n<i)→lessM news i m m
 | [],_,_=>trivial
 | x::m,i,h=>by
  have hi:i ∉ news:=fun hc=>by have:=h i hc;omega
  refine ⟨?_,z137 fun n hn=>Nat.lt_succ_of_lt (h n hn)⟩
  rcases x with _ | b
  ·exact .inr rfl
  ·cases b <;> first | exact ⟨hi,z9 _ _⟩ | exact ⟨hi,rfl,rfl,rfl⟩
theorem z18 (n:Net) (p:Party) (to arr:Int) (k:Nat) (b:Option Blk):lessM [] 162 (bySt n p to arr k++[b]) (bySt n p to arr k++[b]):=z137 (by simp)
theorem z14 (n:Net) (p:Party) (to arr:Int) (k:Nat):lessM [] 162 (bySt n p to arr k) (bySt n p to arr k):=z137 (by simp)
theorem z154 (n:Net) (p:Party) (to arr:Int) (k:Nat):lessM [155] 162 (bySt n p to arr k) (bySt n p to arr k):=z137 (by simp)
theorem z190 {m:List (Option Blk)}:∀ {l:List (Option Blk)},(∀ x ∈ l,∃ e z rows,x=some (.arr e z rows))→liveM m l=true
 | [],_=>rfl
 | x::l,h=>by
  obtain ⟨e,z,rows,rfl⟩:=h x (by simp)
  exact z190 (l:=l) fun y hy=>h y (by simp [hy])
theorem z13 (m:List (Option Blk)) (n:Net) (p:Party) (to arr:Int) (k:Nat):liveM m (bySt n p to arr k)=true :=
 z190 fun x hx=>by obtain ⟨i,_,rfl⟩:=List.mem_map.1 hx;exact ⟨_,_,_,rfl⟩
theorem z17 (m:List (Option Blk)) (n:Net) (p:Party) (to arr:Int) (k e z:Nat) (rows:List (List DV)):liveM m (bySt n p to arr k++[some (.arr e z rows)])=true :=
 z190 fun x hx=>by
  rcases List.mem_append.1 hx with hx | hx
  ·obtain ⟨i,_,rfl⟩:=List.mem_map.1 hx;exact ⟨_,_,_,rfl⟩
  ·simp at hx;exact ⟨_,_,_,hx⟩
theorem z23 {m:List (Option Blk)} {K k:Nat} (h1:(m.drop 162).length=k + 1) (h2:(m.drop 162).all Option.isSome=true):(byRow K k).all (liveB m)=true:=by
 rw [List.all_eq_true]
 intro x hx
 unfold byRow at hx
 rcases List.mem_append.1 hx with hx | hx
 ·obtain ⟨i,hi,rfl⟩:=List.mem_map.1 hx
  have hi:i<k + 1:=by simpa using hi
  have hlt:i<(m.drop 162).length:=by omega
  have hs:=List.all_eq_true.1 h2 ((m.drop 162)[i]) (List.getElem_mem hlt)
  obtain ⟨b,hb⟩:=Option.isSome_iff_exists.1 hs
  have:m[i + 162]?=some (some b):=by
   rw [Nat.add_comm,← List.getElem?_drop,List.getElem?_eq_getElem hlt,hb]
  simp [liveB,AV.refs,this]
 ·rw [List.eq_of_mem_replicate hx];rfl
theorem z777 (K k a:Nat) (f:AV→AV) (ha:a<162):(byRow K k).map (AV.sub a f)=byRow K k:=by
 unfold byRow
 rw [List.map_append,List.map_map,List.map_replicate]
 congr 1
 refine List.map_congr_left fun i _=>?_
 have:¬ i + 162=a:=by omega
 simp [AV.sub,this]
theorem z224 (a:Nat) (f:AV→AV):∀ {l:List (Option Blk)},(∀ x ∈ l,∃ e z rows,x=some (.arr e z rows))→subMem a f l=l
 | [],_=>rfl
 | x::l,h=>by
  obtain ⟨e,z,rows,rfl⟩:=h x (by simp)
  rw [subMem,z224 a f fun y hy=>h y (by simp [hy])]
  rfl
theorem z835 (n:Net) (p:Party) (to arr:Int) (k a:Nat) (f:AV→AV):subMem a f (bySt n p to arr k)=bySt n p to arr k :=
 z224 a f fun x hx=>by obtain ⟨i,_,rfl⟩:=List.mem_map.1 hx;exact ⟨_,_,_,rfl⟩
theorem z146 {α:Type} {q:α→Bool} {l:List α} {i:Nat} {x:α} (h:l[i]?=some x) (h0:(l.take i).find? q=none) (hx:q x=false):(l.take (i + 1)).find? q=none:=by
 rw [List.take_add_one,h,List.find?_append,h0];simp [hx]
theorem z863 {α:Type} {q:α→Bool} {l:List α} {i:Nat} {x:α} (h:l[i]?=some x) (h0:(l.take i).find? q=none) (hx:q x=true):l.find? q=some x:=by
 rw [← List.take_append_drop i l,List.find?_append,h0,z138 h];simp [hx]
theorem z932 (n:Net) (p:Party) (frm start to:Int) (hs:n.Small)
  (hfew:openF n p [frm,to] [start]=0→getI (arrivalsL n p spanHi frm start (-1)) to≠never→∃ K:Nat,fewest n p frm start to (getI (arrivalsL n p spanHi frm start (-1)) to)=K∧K<2 ^ 20) :
  Fn Try.prog 15 [.agg n.cells,.agg p.cells,.i frm,.i start,.i to]
  (.tup [.sl (intRows (routeL n p frm start to).1),.i (routeL n p frm start to).2.1,.i (routeL n p frm start to).2.2]):=by
 have h41:=z892 n p [frm,to] [start] hs (by simp) (by simp)
 refine z10 162 Try.call15 Try.func15 rfl (by decide) fun J=>?_
 simp only [go_sem,St.start,Try.ntmps15,Try.results15,Net.cells,Party.cells]
 repeat (first | refine nx ?_ | (refine z3 fun K hK=>?_;simp only [go_sem,walkCells];(repeat (first | (refine ⟨_,.lent (hf:=h41) (hd:=rfl) (hr:=rfl),?_⟩;simp only [go_sem,walkCells]) | (refine ⟨_,.given (hf:=h41) (hd:=rfl) (ha:=rfl),?_⟩;simp only [go_sem,walkCells])));apply hK;clear hK K))
 refine z5 rfl (fun hc=>?_) (fun hc=>?_)
 ·have hc:¬ openF n p [frm,to] [start]=0:=by simpa using hc
  repeat (first | refine nx ?_ | (refine z3 fun K hK=>?_;simp only [go_sem];apply hK;clear hK K))
  simp only [go_sem,routeL,hc]
  rfl
 have hop:openF n p [frm,to] [start]=0:=by simpa using hc
 have ho:=z212.1 hop
 have hfr:=ho.place frm (by simp)
 have hto:=ho.place to (by simp)
 have hpl:=ho.net.places
 have hlen:=z56 n p spanHi frm start (-1)
 obtain ⟨arr,harr⟩:∃ arr,arr=getI (arrivalsL n p spanHi frm start (-1)) to:=⟨_,rfl⟩
 have hrl:routeL n p frm start to=if arr=never then ([],0,3) else ((routeD n p to arr (fewest n p frm start to arr).toNat ([],frm,start)).1,arr,0):=by
  rw [routeL,if_pos hop,harr]
 rw [hrl]
 have hg:(intRows (arrivalsL n p spanHi frm start (-1)))[to.toNat]?=some [.i arr]:=by rw [harr];exact z36 hto.1 (by omega)
 have hlt:to.toNat<(intRows (arrivalsL n p spanHi frm start (-1))).length:=by rw [z21];omega
 have h42:=z891 n p frm start (-1) 43 spanHi (fun s=>z909 s) ho.net.ok hfr
 repeat (first | refine nx ?_ | (refine z3 fun K hK=>?_;simp only [go_sem];apply hK;clear hK K))
 refine z15 (by kernel_rfl) (by kernel_rfl) fun K hK=>?_
 simp only [go_sem]
 refine ⟨_,.fnS (hdst:=rfl) (hf:=h42) (hd:=rfl) (hr:=.inr rfl) (hfr:=rfl),?_⟩
 simp only [go_sem,hg,hlt,hto.1]
 refine ⟨by kernel_rfl,hK _ ?_⟩
 clear hK K
 repeat (first | refine nx ?_ | (refine z3 fun K hK=>?_;simp only [go_sem];apply hK;clear hK K))
 refine z5 rfl (fun hc=>?_) (fun hc=>?_)
 ·have hc:arr=never:=by simpa [never] using hc
  repeat (first | refine nx ?_ | (refine z3 fun K hK=>?_;simp only [go_sem];apply hK;clear hK K))
  simp only [go_sem,hc]
  rfl
 have hnv:¬ arr=never:=by intro e;rw [e] at hc;simp [never] at hc
 obtain ⟨kn,hKe,hKb⟩:=hfew hop (by rw [← harr];exact hnv)
 rw [← harr] at hKe
 have h45:=z925 n p frm start ho.net.ok hpl.1 hfr
 have h46:∀ l ∈ stepsL n p frm start (n.places.toNat - 1),Fn Try.prog 46 [.sl (intRows l),.ptr [.i to] 0,.ptr [.i arr] 0] (.bool (getI l to == arr)):=by
  intro l hl
  obtain ⟨k,_,rfl⟩:=List.mem_map.1 hl
  exact z924 _ to arr ⟨hto.1,by rw [z611];omega⟩
 have h44:=z926 (stepsL n p frm start (n.places.toNat - 1)) 46 [.ptr [.i to] 0,.ptr [.i arr] 0] _ h46 (by simp [stepsL];omega)
 rw [show idxFrom (fun s=>getI s to == arr) (stepsL n p frm start (n.places.toNat - 1)) 0=(kn:Int) from hKe] at h44
 repeat (first | refine nx ?_ | (refine z3 fun K hK=>?_;simp only [go_sem];apply hK;clear hK K))
 refine z3 fun K hK=>?_
 simp only [go_sem]
 refine ⟨_,.givenS (hdst:=rfl) (hf:=h45) (hd:=rfl) (ha:=rfl) (hfr:=rfl),?_⟩
 simp only [go_sem]
 refine ⟨_,.lent (hf:=h44) (hd:=rfl) (hr:=rfl),?_⟩
 simp only [go_sem]
 apply hK
 clear hK K
 have hw1:IntKind.i64.wrap ((kn:Int) + 1)=((kn + 1:Nat):Int):=by rw [z12 (by omega)];simp
 have hmk:((kn + 1:Nat):Int)≤1099511627776:=by omega
 refine z24 ?_
 refine z3 fun K hK=>?_
 simp only [go_sem,hw1,hmk]
 apply hK
 clear hK K
 refine z24 ?_
 refine z492 57 ?_
 simp only [go_sem,List.map_replicate]
 refine z45 [25,26,27,28,29,30,31,32,33,34,35,36,37,38,39,40,41,42,43,44,45,46,47,48,49,50,51,52,53,54,55,56] ?_ ?_
 ·simp only [go_sem]
  refine z39 [] ?_ ?_ ?_ ?_
  ·simp [lessT,z9,AV.less]
  ·simp [lessM,lessB,lessT,z9,AV.less,List.all_replicate]
  ·first | rfl | simp [liveB,AV.refs,AV.refs.AV.refss,List.all_replicate]
  ·first | rfl | simp [liveM,liveB,AV.refs,AV.refs.AV.refss,List.all_replicate]
 simp only [go_sem]
 obtain ⟨m,hm⟩:∃ m:Nat,n.places=m:=⟨n.places.toNat,by omega⟩
 have hpos:0<kn + 1:=by omega
 have htn:n.places.toNat=m:=by omega
 have h47:FnS Try.prog 47 [.sl [[.i (-1)]],.i n.places] 3 1 (intRows (List.replicate m (-1))):=by rw [hm];exact z871 (-1) m (by omega)
 refine z15 (by kernel_rfl) (by kernel_rfl) fun K hK=>?_
 simp only [go_sem]
 refine ⟨_,.fnS (hdst:=rfl) (hf:=h47) (hd:=rfl) (hr:=.inl (z73 _)) (hfr:=rfl),?_⟩
 simp only [go_sem,Nat.le_add_left,hpos]
 refine ⟨by kernel_rfl,hK _ ?_⟩
 clear hK K
 refine z24 ?_
 refine z292 63 ?_
 simp only [go_sem,List.map_replicate]
 refine z45 [58,59,60,61,62,63,64] ?_ ?_
 ·simp only [go_sem]
  refine z39 [] ?_ ?_ ?_ ?_
  ·simp [lessT,z9,AV.less]
  ·simp [lessM,lessB,lessT,z9,AV.less,List.all_replicate]
  ·first | rfl | simp [liveB,AV.refs,AV.refs.AV.refss,List.all_replicate]
  ·first | rfl | simp [liveM,liveB,AV.refs,AV.refs.AV.refss,List.all_replicate]
 simp only [go_sem]
 have hltm:to.toNat<m:=by omega
 have hg0:(intRows (List.replicate m (-1)))[to.toNat]?=some [.i (-1)]:=by simp [intRows,hltm]
 have hl0:to.toNat<(intRows (List.replicate m (-1))).length:=by simp [intRows,hltm]
 have hset0:(List.replicate m (-1)).set to.toNat arr=byL n p to arr 0:=by rw [byL,iterL,deadlines0,htn]
 refine z15 (by kernel_rfl) (by kernel_rfl) fun K hK=>?_
 simp only [go_sem,hg0,hl0,hto.1,z42,hset0,hpos]
 refine ⟨by kernel_rfl,hK _ ?_⟩
 clear hK K
 repeat (first | refine nx ?_ | (refine z3 fun K hK=>?_;simp only [go_sem];apply hK;clear hK K))
 refine z45 [65,66,67,68,69,70] ?_ ?_
 ·simp only [go_sem]
  refine z39 [] ?_ ?_ ?_ ?_
  ·simp [lessT,z9,AV.less]
  ·simp [lessM,lessB,lessT,z9,AV.less,List.all_replicate]
  ·first | rfl | simp [liveB,AV.refs,AV.refs.AV.refss,List.all_replicate]
  ·first | rfl | simp [liveM,liveB,AV.refs,AV.refs.AV.refss,List.all_replicate]
 simp only [go_sem]
 refine z221 162 (fun (k:Nat)=>[(72,.d (.i k))]) (fun k=>[(57,some (.box (byRow kn k)))]) (fun k=>bySt n p to arr k) (fun k=>k≤kn) (fun k=>kn - k) 0 ?_ (Nat.zero_le _) ?_
 ·simp only [go_sem,byRow,bySt]
  refine z39 [] ?_ ?_ ?_ ?_
  ·simp [lessT,z9,AV.less]
  ·simp [lessM,lessB,lessT,z9,AV.less,List.all_replicate]
  ·first | rfl | simp [liveB,AV.refs,AV.refs.AV.refss,List.all_replicate]
  ·first | rfl | simp [liveM,liveB,AV.refs,AV.refs.AV.refss,List.all_replicate]
 ·intro k hk
  have hrl:=z247 kn k hk
  have hr0:=z181 kn k k (Nat.le_refl _)
  simp only [go_sem]
  repeat (first | refine nx ?_ | (refine z3 fun K hK=>?_;simp only [go_sem];apply hK;clear hK K))
  refine z5 rfl (fun hb=>?_) (fun hb=>?_)
  ·have hlt:k<kn:=by simpa using hb
   have hw:IntKind.i64.wrap ((k:Int) + 1)=((k + 1:Nat):Int):=by rw [z12 (by omega)];simp
   have hl1:k + 1<kn + 1:=by omega
   have hl2:k + 1 + 1≤kn + 1:=by omega
   repeat (first | refine nx ?_ | (refine z3 fun K hK=>?_;simp only [go_sem];apply hK;clear hK K))
   have hl3:k + 1≤kn:=hlt
   refine z15 (by kernel_rfl) (by kernel_rfl) fun K hK=>?_
   simp only [go_sem,hrl,hl1,hl2,hl3,hw]
   refine ⟨_,.fnS (hdst:=rfl) (hf:=h47) (hd:=rfl) (hr:=.inl (z73 _)) (hfr:=rfl),?_⟩
   simp only [go_sem,hrl,hl1,hl2,hl3,hw]
   refine ⟨by kernel_rfl,hK _ ?_⟩
   clear hK K
   refine z24 ?_
   have hmv:=z709 kn k hlt
   have htm:∀ h,(bySt n p to arr k).map (Option.map (Blk.mapN h))=bySt n p to arr k:=fun h=>z836 n p to arr k h
   refine z220 82 (k + 1 + 162) ?_ _ rfl ?_
   ·simp only [go_sem,z16]
   simp only [go_sem,hmv,htm]
   have hr1:=z181 kn (k + 1) (k + 1) (Nat.le_refl _)
   have hr0:=z181 kn (k + 1) k (Nat.le_succ _)
   have hrl:=z247 kn (k + 1) hlt
   have hlk:k<kn + 1:=by omega
   have htl:∀ x y,(bySt n p to arr k++[x]).set (k + 1) y=bySt n p to arr k++[y]:=fun x y=>by
    rw [List.set_append_right _ _ (by rw [z16];omega),z16,Nat.sub_self];rfl
   have htg1:∀ x,(bySt n p to arr k++[x])[k + 1]?=some x:=fun x=>by
    rw [List.getElem?_append_right (by rw [z16];omega),z16,Nat.sub_self];rfl
   have htg0:∀ x,(bySt n p to arr k++[x])[k]?=some (some (.arr 3 1 (intRows (byL n p to arr k)))):=fun x=>by
    rw [List.getElem?_append_left (by rw [z16];omega),z623 n p to arr k k (Nat.le_refl _)]
   refine z45 [75,76,77,78,79,80,81,82,83] ?_ ?_
   ·simp only [go_sem]
    refine z39 [] ?_ ?_ ?_ ?_
    ·simp [lessT,z9,AV.less]
    ·simp [lessM,lessB,lessT,z9,AV.less,z23,z16,z19,List.all_append,List.length_append,z18,z14,z17,z13]
    ·first | rfl | simp [liveB,AV.refs,AV.refs.AV.refss,z23,z16,z19,List.all_append,List.length_append,z18,z14,z17,z13]
    ·first | rfl | simp [liveM,liveB,AV.refs,AV.refs.AV.refss,z23,z16,z19,List.all_append,List.length_append,z18,z14,z17,z13]
   simp only [go_sem]
   repeat (first | refine nx ?_ | (refine z3 fun K hK=>?_;simp only [go_sem];(repeat (first | (refine ⟨_,.lent (hf:=z842 n p (-1)) (hd:=rfl) (hr:=rfl),?_⟩;simp only [go_sem]) | (refine ⟨_,.given (hf:=z842 n p (-1)) (hd:=rfl) (ha:=rfl),?_⟩;simp only [go_sem])));apply hK;clear hK K))
   obtain ⟨cur,hcur⟩:∃ cur,cur=byL n p to arr k:=⟨_,rfl⟩
   have hcl:cur.length=m:=by rw [hcur,z778];exact htn
   rw [← hcur] at htg0
   refine z71 (g:=.tmp 85) rfl (z453 n p (-1) (by have:=ho.net.paths;omega)) (by intro row hr;obtain ⟨w,_,rfl⟩:=List.mem_map.1 hr;rfl) (fun _=>[]) (fun (a:List Int)=>[(k + 1 + 162,some (.arr 3 1 (intRows a)))])
    (fun i a=>a=((waysL n p (-1)).take i).foldl (relaxBy p cur) (List.replicate m (-1))) (fun _ _=>False) (List.replicate m (-1)) ?_ rfl ?_ ?_ (fun _ _ h=>h.elim)
   ·simp only [go_sem,htl]
    refine z39 [] ?_ ?_ ?_ ?_
    ·simp [lessT,z9,AV.less]
    ·simp [lessM,lessB,lessT,z9,AV.less,z23,z16,z19,List.all_append,List.length_append,z18,z14,z17,z13]
    ·first | rfl | simp [liveB,AV.refs,AV.refs.AV.refss,z23,z16,z19,List.all_append,List.length_append,z18,z14,z17,z13]
    ·first | rfl | simp [liveM,liveB,AV.refs,AV.refs.AV.refss,z23,z16,z19,List.all_append,List.length_append,z18,z14,z17,z13]
   ·intro i a row hi ha l2 m2
    simp only [List.getElem?_map,Option.map_eq_some_iff] at hi
    obtain ⟨w,hw1,rfl⟩:=hi
    have hx:=z70 (List.mem_of_getElem? hw1)
    have hmem:=List.mem_of_getElem? hx
    have hn:=ho.net.ok
    have hlen:a.length=m:=by rw [ha,z194];simp
    have hf:=hn.frm w.2 hmem
    have ht:=hn.to w.2 hmem
    have g1:(intRows a)[w.2.frm.toNat]?=some [.i (getI a w.2.frm)]:=z36 hf.1 (by omega)
    have g2:(intRows cur)[w.2.to.toNat]?=some [.i (getI cur w.2.to)]:=z36 ht.1 (by omega)
    have g3:w.2.frm.toNat<(intRows a).length:=by rw [z21];omega
    have g4:w.2.to.toNat<(intRows cur).length:=by rw [z21];omega
    have h49:=z908 n p w.1 w.2 (getI cur w.2.to) hx (by have:=hn.opens w.2 hmem;omega)
    have hnext:((waysL n p (-1)).take (i + 1)).foldl (relaxBy p cur) (List.replicate m (-1))=relaxBy p cur a w:=by rw [ha];exact z40 _ _ _ _ _ hw1
    simp only [go_sem,wayRow,Path.row,htl]
    repeat (first | refine nx ?_ | (refine z3 fun K hK=>?_;simp only [go_sem];apply hK;clear hK K))
    refine z15 (by kernel_rfl) (by kernel_rfl) fun K hK=>?_
    simp only [go_sem,g1,g2,g3,g4,ht.1,hf.1,hr0,hr1,htg0,htg1,hl1,hlk,hw]
    refine ⟨_,.fn (hf:=h49) (hd:=rfl) (hr:=.inl rfl),?_⟩
    simp only [go_sem,g1,g2,g3,g4,ht.1,hf.1,hr0,hr1,htg0,htg1,hl1,hlk,hw]
    refine ⟨by kernel_rfl,hK _ ?_⟩
    clear hK K
    repeat (first | refine nx ?_ | (refine z3 fun K hK=>?_;simp only [go_sem];apply hK;clear hK K))
    refine ⟨rfl,relaxBy p cur a w,?_,hnext.symm⟩
    rw [relaxBy,← z42]
    simp only [go_sem,htl]
    refine z39 [] ?_ ?_ ?_ ?_
    ·simp [lessT,z9,AV.less]
    ·simp [lessM,lessB,lessT,z9,AV.less,z23,z16,z19,List.all_append,List.length_append,z18,z14,z17,z13]
    ·first | rfl | simp [liveB,AV.refs,AV.refs.AV.refss,z23,z16,z19,List.all_append,List.length_append,z18,z14,z17,z13]
    ·first | rfl | simp [liveM,liveB,AV.refs,AV.refs.AV.refss,z23,z16,z19,List.all_append,List.length_append,z18,z14,z17,z13]
   ·intro a ha
    rw [List.length_map,List.take_length] at ha
    have ha:a=byNext n p cur:=by rw [ha,byNext,htn]
    simp only [go_sem,htl]
    repeat (first | refine nx ?_ | (refine z3 fun K hK=>?_;simp only [go_sem,hw];apply hK;clear hK K))
    refine ⟨rfl,k + 1,?_,hlt,by omega⟩
    rw [z776,← hcur,← ha]
    refine z39 [] ?_ ?_ ?_ ?_
    ·simp [lessT,z9,AV.less]
    ·simp [lessM,lessB,lessT,z9,AV.less,z23,z16,z19,List.all_append,List.length_append,z18,z14,z17,z13]
    ·first | rfl | simp [liveB,AV.refs,AV.refs.AV.refss,z23,z16,z19,List.all_append,List.length_append,z18,z14,z17,z13]
    ·first | rfl | simp [liveM,liveB,AV.refs,AV.refs.AV.refss,z23,z16,z19,List.all_append,List.length_append,z18,z14,z17,z13]
  ·have he:kn=k:=by (have:¬ k<kn:=by simpa using hb);omega
   subst he
   have hwk:IntKind.i64.wrap ((kn:Int) - 1)=(kn:Int) - 1:=z12 (by omega)
   have hrl:=z247 kn kn (Nat.le_refl _)
   have hrx:=z181 kn kn
   have htx:=z623 n p to arr kn
   repeat (first | refine nx ?_ | (refine z3 fun K hK=>?_;simp only [go_sem,hwk];apply hK;clear hK K))
   refine z25 (fun (a:Int × RSt)=>[(21,.box 21 0)]) (fun a=>[(10,some (.box [.own 155])),(155,some (.arr 3 1 (intRows a.2.1))),(19,some (.box [.d (.i a.2.2.1)])),(20,some (.box [.d (.i a.2.2.2)])),(21,some (.box [.d (.i a.1)]))])
    (fun a=>-1≤a.1∧a.1<kn∧routeD n p to arr kn ([],frm,start)=routeD n p to arr (a.1 + 1).toNat a.2∧a.2.1.length + (a.1 + 1).toNat≤kn) (fun a=>(a.1 + 1).toNat) ((kn:Int) - 1,[],frm,start) ?_
    ⟨by dsimp only;omega,by dsimp only;omega,by dsimp only;congr 1;omega,by dsimp only;simp only [List.length_nil];omega⟩ ?_
   ·simp only [go_sem]
    refine z39 [155] ?_ ?_ ?_ ?_
    ·simp [lessT,z9,AV.less]
    ·simp [lessM,lessB,lessT,z9,AV.less,z154,z23,z16,z19,List.all_append,List.length_append,z18,z14,z17,z13,intRows]
    ·first | rfl | simp [liveB,AV.refs,AV.refs.AV.refss,z154,z23,z16,z19,List.all_append,List.length_append,z18,z14,z17,z13,intRows]
    ·first | rfl | simp [liveM,liveB,AV.refs,AV.refs.AV.refss,z154,z23,z16,z19,List.all_append,List.length_append,z18,z14,z17,z13,intRows]
   ·rintro ⟨t,s⟩ ⟨ht1,ht2,hrd,hsl⟩
    dsimp only at ht1 ht2 hrd hsl
    simp only [go_sem]
    repeat (first | refine nx ?_ | (refine z3 fun K hK=>?_;simp only [go_sem];apply hK;clear hK K))
    refine z5 rfl (fun hb=>?_) (fun hb=>?_)
    ·have hb:t ≥ 0:=by simpa using hb
     obtain ⟨j,rfl⟩:∃ j:Nat,t=j:=⟨t.toNat,by omega⟩
     have hjk:j≤kn:=by omega
     have hjk1:j<kn + 1:=by omega
     have hwj:IntKind.i64.wrap ((j:Int) - 1)=(j:Int) - 1:=z12 (by omega)
     rw [show ((j:Int) + 1).toNat=j + 1 by omega,routeD] at hrd
     rw [show ((j:Int) + 1).toNat=j + 1 by omega] at hsl
     obtain ⟨cur,hcur⟩:∃ cur,cur=byL n p to arr j:=⟨_,rfl⟩
     have hcl:cur.length=m:=by rw [hcur,z778];exact htn
     have htj:=htx j hjk
     have hrj:=hrx j hjk
     rw [← hcur] at hrd htj
     repeat (first | refine z24 ?_ | refine z291 ?_)
     refine z41 [] [(155,some (.arr 3 1 (intRows (stepR n p cur s).1))),(19,some (.box [.d (.i (stepR n p cur s).2.1)])),(20,some (.box [.d (.i (stepR n p cur s).2.2)]))] ?_ ?_
     ·refine z222 ?_
      repeat (first | refine nx ?_ | (refine z3 fun K hK=>?_;simp only [go_sem];(repeat (first | (refine ⟨_,.lent (hf:=z842 n p (-1)) (hd:=rfl) (hr:=rfl),?_⟩;simp only [go_sem]) | (refine ⟨_,.given (hf:=z842 n p (-1)) (hd:=rfl) (ha:=rfl),?_⟩;simp only [go_sem])));apply hK;clear hK K))
      refine z71 (g:=.tmp 127) rfl (z453 n p (-1) (by have:=ho.net.paths;omega)) (by intro row hr;obtain ⟨w,_,rfl⟩:=List.mem_map.1 hr;rfl) (fun _=>[]) (fun (a:RSt)=>[(155,some (.arr 3 1 (intRows a.1))),(19,some (.box [.d (.i a.2.1)])),(20,some (.box [.d (.i a.2.2)]))])
       (fun i a=>a=s∧((waysL n p (-1)).take i).find? (fitsR p cur s)=none) (fun e a=>e=.exit 6∧a=stepR n p cur s) s ?_ ⟨rfl,rfl⟩ ?_ ?_ ?_
      ·simp only [go_sem]
       refine z39 [] ?_ ?_ ?_ ?_
       ·simp [lessT,z9,AV.less]
       ·simp [lessM,lessB,lessT,z9,AV.less,z23,z16,z19,List.all_append,List.length_append,z18,z14,z17,z13]
       ·first | rfl | simp [liveB,AV.refs,AV.refs.AV.refss,z23,z16,z19,List.all_append,List.length_append,z18,z14,z17,z13]
       ·first | rfl | simp [liveM,liveB,AV.refs,AV.refs.AV.refss,z23,z16,z19,List.all_append,List.length_append,z18,z14,z17,z13]
      ·rintro i a row hi ⟨rfl,hnone⟩ l2 m2
       simp only [List.getElem?_map,Option.map_eq_some_iff] at hi
       obtain ⟨w,hw1,rfl⟩:=hi
       have hx:=z70 (List.mem_of_getElem? hw1)
       have hmem:=List.mem_of_getElem? hx
       have hn:=ho.net.ok
       have ht:=hn.to w.2 hmem
       have g2:(intRows cur)[w.2.to.toNat]?=some [.i (getI cur w.2.to)]:=z36 ht.1 (by omega)
       have g4:w.2.to.toNat<(intRows cur).length:=by rw [z21];omega
       have h51:=z870 n p w.1 w.2 hx
       have h50:=z889 n p w.1 w.2 a.2.2 (spanW w.2 p).hi hx (by have:=hn.opens w.2 hmem;omega)
       have hfit:a.1.length + 1≤549755813888:=by omega
       simp only [go_sem,wayRow,Path.row]
       repeat (first | refine nx ?_ | (refine z3 fun K hK=>?_;simp only [go_sem];apply hK;clear hK K))
       refine z5 rfl (fun hc=>?_) (fun hc=>?_)
       ·have hq:fitsR p cur a w=false:=by
         have:¬ w.2.frm=a.2.1:=by simpa using hc
         simp [fitsR,this]
        repeat (first | refine nx ?_ | (refine z3 fun K hK=>?_;simp only [go_sem];apply hK;clear hK K))
        refine ⟨rfl,a,?_,rfl,z146 hw1 hnone hq⟩
        simp only [go_sem]
        refine z39 [] ?_ ?_ ?_ ?_
        ·simp [lessT,z9,AV.less]
        ·simp [lessM,lessB,lessT,z9,AV.less,z23,z16,z19,List.all_append,List.length_append,z18,z14,z17,z13]
        ·first | rfl | simp [liveB,AV.refs,AV.refs.AV.refss,z23,z16,z19,List.all_append,List.length_append,z18,z14,z17,z13]
        ·first | rfl | simp [liveM,liveB,AV.refs,AV.refs.AV.refss,z23,z16,z19,List.all_append,List.length_append,z18,z14,z17,z13]
       ·have hfe:w.2.frm=a.2.1:=by simpa using hc
        repeat (first | refine nx ?_ | (refine z3 fun K hK=>?_;simp only [go_sem];apply hK;clear hK K))
        refine z15 (by kernel_rfl) (by kernel_rfl) fun K hK=>?_
        simp only [go_sem]
        refine ⟨_,.fn (hf:=h51) (hd:=rfl) (hr:=.inl rfl),?_⟩
        simp only [go_sem,Span.row]
        refine ⟨_,.fn (hf:=h50) (hd:=rfl) (hr:=.inl rfl),?_⟩
        simp only [go_sem]
        refine ⟨by kernel_rfl,hK _ ?_⟩
        clear hK K
        repeat (first | refine nx ?_ | (refine z3 fun K hK=>?_;simp only [go_sem];apply hK;clear hK K))
        refine z15 (by kernel_rfl) (by kernel_rfl) fun K hK=>?_
        simp only [go_sem,g2,g4,ht.1,htj,hrj,hjk1]
        refine ⟨by kernel_rfl,hK _ ?_⟩
        clear hK K
        refine z5 rfl (fun hc=>?_) (fun hc=>?_)
        ·have hq:fitsR p cur a w=true:=by
          have:arriveF w.2.opens a.2.2 (spanW w.2 p).hi≤getI cur w.2.to:=by simpa using hc
          simp [fitsR,this,hfe]
         have hst:stepR n p cur a=(a.1++[(w.1:Int)],w.2.to,arriveF w.2.opens a.2.2 (spanW w.2 p).hi):=by rw [stepR,z863 hw1 hnone hq]
         have hrs:=fun f=>z777 kn kn 155 f (by omega)
         have hss:=fun f=>z835 n p to arr kn 155 f
         repeat (first | refine nx ?_ | (refine z3 fun K hK=>?_;simp only [go_sem,z21,hfit,hrs,hss];apply hK;clear hK K))
         refine ⟨rfl,rfl,stepR n p cur a,?_,rfl,rfl⟩
         rw [hst,← z284]
         simp only [go_sem]
         refine z39 [] ?_ ?_ ?_ ?_
         ·simp [lessT,z9,AV.less]
         ·simp [lessM,lessB,lessT,z9,AV.less,z23,z16,z19,List.all_append,List.length_append,z18,z14,z17,z13,intRows]
         ·first | rfl | simp [liveB,AV.refs,AV.refs.AV.refss,z23,z16,z19,List.all_append,List.length_append,z18,z14,z17,z13,intRows]
         ·first | rfl | simp [liveM,liveB,AV.refs,AV.refs.AV.refss,z23,z16,z19,List.all_append,List.length_append,z18,z14,z17,z13,intRows]
        ·have hq:fitsR p cur a w=false:=by
          have:¬ arriveF w.2.opens a.2.2 (spanW w.2 p).hi≤getI cur w.2.to:=by simpa using hc
          simp [fitsR,this]
         repeat (first | refine nx ?_ | (refine z3 fun K hK=>?_;simp only [go_sem];apply hK;clear hK K))
         refine ⟨rfl,a,?_,rfl,z146 hw1 hnone hq⟩
         simp only [go_sem]
         refine z39 [] ?_ ?_ ?_ ?_
         ·simp [lessT,z9,AV.less]
         ·simp [lessM,lessB,lessT,z9,AV.less,z23,z16,z19,List.all_append,List.length_append,z18,z14,z17,z13]
         ·first | rfl | simp [liveB,AV.refs,AV.refs.AV.refss,z23,z16,z19,List.all_append,List.length_append,z18,z14,z17,z13]
         ·first | rfl | simp [liveM,liveB,AV.refs,AV.refs.AV.refss,z23,z16,z19,List.all_append,List.length_append,z18,z14,z17,z13]
      ·rintro a ⟨rfl,hnone⟩
       rw [List.length_map,List.take_length] at hnone
       have hst:stepR n p cur a=a:=by rw [stepR,hnone]
       rw [hst]
       simp only [go_sem]
       repeat (first | refine nx ?_ | (refine z3 fun K hK=>?_;simp only [go_sem];apply hK;clear hK K))
       refine ⟨rfl,?_⟩
       refine z39 [] ?_ ?_ ?_ ?_
       ·simp [lessT,z9,AV.less]
       ·simp [lessM,lessB,lessT,z9,AV.less,z23,z16,z19,List.all_append,List.length_append,z18,z14,z17,z13]
       ·first | rfl | simp [liveB,AV.refs,AV.refs.AV.refss,z23,z16,z19,List.all_append,List.length_append,z18,z14,z17,z13]
       ·first | rfl | simp [liveM,liveB,AV.refs,AV.refs.AV.refss,z23,z16,z19,List.all_append,List.length_append,z18,z14,z17,z13]
      ·rintro e a ⟨rfl,rfl⟩ _
       simp only [go_sem]
       repeat (first | refine nx ?_ | (refine z3 fun K hK=>?_;simp only [go_sem];apply hK;clear hK K))
       refine ⟨rfl,?_⟩
       refine z39 [] ?_ ?_ ?_ ?_
       ·simp [lessT,z9,AV.less]
       ·simp [lessM,lessB,lessT,z9,AV.less,z23,z16,z19,List.all_append,List.length_append,z18,z14,z17,z13]
       ·first | rfl | simp [liveB,AV.refs,AV.refs.AV.refss,z23,z16,z19,List.all_append,List.length_append,z18,z14,z17,z13]
       ·first | rfl | simp [liveM,liveB,AV.refs,AV.refs.AV.refss,z23,z16,z19,List.all_append,List.length_append,z18,z14,z17,z13]
     ·have hlen1:(stepR n p cur s).1.length≤s.1.length + 1:=by
       unfold stepR;split <;> simp
      simp only [go_sem]
      repeat (first | refine nx ?_ | (refine z3 fun K hK=>?_;simp only [go_sem];apply hK;clear hK K))
      refine z45 [21] ?_ ?_
      ·simp only [go_sem]
       refine z39 [] ?_ ?_ ?_ ?_
       ·simp [lessT,z9,AV.less]
       ·simp [lessM,lessB,lessT,z9,AV.less,z23,z16,z19,List.all_append,List.length_append,z18,z14,z17,z13]
       ·first | rfl | simp [liveB,AV.refs,AV.refs.AV.refss,z23,z16,z19,List.all_append,List.length_append,z18,z14,z17,z13]
       ·first | rfl | simp [liveM,liveB,AV.refs,AV.refs.AV.refss,z23,z16,z19,List.all_append,List.length_append,z18,z14,z17,z13]
      simp only [go_sem]
      repeat (first | refine nx ?_ | (refine z3 fun K hK=>?_;simp only [go_sem,hwj];apply hK;clear hK K))
      refine ⟨rfl,((j:Int) - 1,stepR n p cur s),?_,⟨by dsimp only;omega,by dsimp only;omega,by dsimp only;rw [hrd];congr 1;omega,by dsimp only;omega⟩,by dsimp only;omega⟩
      refine z39 [] ?_ ?_ ?_ ?_
      ·simp [lessT,z9,AV.less]
      ·simp [lessM,lessB,lessT,z9,AV.less,z23,z16,z19,List.all_append,List.length_append,z18,z14,z17,z13]
      ·first | rfl | simp [liveB,AV.refs,AV.refs.AV.refss,z23,z16,z19,List.all_append,List.length_append,z18,z14,z17,z13]
      ·first | rfl | simp [liveM,liveB,AV.refs,AV.refs.AV.refss,z23,z16,z19,List.all_append,List.length_append,z18,z14,z17,z13]
    ·have he:t=-1:=by (have:¬ t ≥ 0:=by simpa using hb);omega
     subst he
     have hrd':routeD n p to arr kn ([],frm,start)=s:=hrd
     repeat (first | refine nx ?_ | (refine z3 fun K hK=>?_;simp only [go_sem];apply hK;clear hK K))
     refine z15 (by kernel_rfl) (by kernel_rfl) fun K hK=>?_
     simp only [go_sem]
     refine ⟨by kernel_rfl,hK _ ?_⟩
     clear hK K
     repeat (first | refine nx ?_ | (refine z3 fun K hK=>?_;simp only [go_sem];apply hK;clear hK K))
     simp only [go_sem,hnv,hKe,Int.toNat_natCast,hrd']
end Go.Ab
namespace Go.Ab
open Go.RowKit Go.Proofs
set_option maxHeartbeats 4000000
set_option maxRecDepth 20000
attribute [local irreducible] WalkL Walk
theorem z233 {a b:List Int} (hl:a.length=b.length) (h:a.take a.length=b.take a.length):a=b:=by
 rw [List.take_length] at h
 rw [h,hl,List.take_length]
theorem z931 (a b:List Int) (ha:a.length<2 ^ 30):Fn Try.prog 17 [.sl (intRows a),.sl (intRows b)] (.bool (decide (a=b))):=by
 refine z10 26 Try.call17 Try.func17 rfl (by decide) fun J=>?_
 simp only [go_sem,St.start,Try.ntmps17,Try.results17]
 repeat (first | refine nx ?_ | (refine z3 fun K hK=>?_;simp only [go_sem,z21];apply hK;clear hK K))
 by_cases hl:a.length=b.length
 ·have hne:((a.length:Int) != (b.length:Int))=false:=by simp [hl]
  simp only [go_sem,hne]
  refine z4 rfl ?_
  repeat (first | refine nx ?_ | (refine z3 fun K hK=>?_;simp only [go_sem];apply hK;clear hK K))
  refine z25 (fun (i:Nat)=>[(5,.d (.i i))]) (fun _=>[]) (fun i=>i≤a.length∧a.take i=b.take i) (fun i=>a.length - i) 0 ?_ ⟨Nat.zero_le _,by simp⟩ ?_
  ·simp only [go_sem]
   refine weA ?_ ?_ <;> simp
  ·intro i ⟨hi,heq⟩
   simp only [go_sem]
   repeat (first | refine nx ?_ | (refine z3 fun K hK=>?_;simp only [go_sem,z21];apply hK;clear hK K))
   refine z5 rfl (fun hb=>?_) (fun hb=>?_)
   ·have hlt:i<a.length:=by simpa using hb
    have hw:IntKind.i64.wrap ((i:Int) + 1)=((i + 1:Nat):Int):=by rw [z12 (by omega)];simp
    obtain ⟨x,hx⟩:∃ x,a[i]?=some x:=⟨_,List.getElem?_eq_getElem hlt⟩
    obtain ⟨y,hy⟩:∃ y,b[i]?=some y:=⟨_,List.getElem?_eq_getElem (hl ▸ hlt)⟩
    have g1:=z193 hx
    have g2:=z193 hy
    repeat (first | refine nx ?_ | (refine z3 fun K hK=>?_;simp only [go_sem];apply hK;clear hK K))
    refine z15 (by kernel_rfl) (by kernel_rfl) fun K hK=>?_
    simp only [go_sem,g1,g2]
    refine ⟨by kernel_rfl,hK _ ?_⟩
    clear hK K
    refine z5 rfl (fun hc=>?_) (fun hc=>?_)
    ·have hc:¬ x=y:=by simpa using hc
     have hab:¬ a=b:=by rintro rfl;rw [hx] at hy;cases hy;exact hc rfl
     repeat (first | refine nx ?_ | (refine z3 fun K hK=>?_;simp only [go_sem];apply hK;clear hK K))
     simp only [go_sem,hab]
    ·have hc:x=y:=by simpa using hc
     repeat (first | refine nx ?_ | (refine z3 fun K hK=>?_;simp only [go_sem,hw];apply hK;clear hK K))
     refine ⟨rfl,i + 1,?_,⟨hlt,by rw [List.take_add_one,List.take_add_one,heq,hx,hy,hc]⟩,by omega⟩
     refine weA ?_ ?_ <;> simp
   ·have he:i=a.length:=by (have:¬ i<a.length:=by simpa using hb);omega
    subst he
    have hab:a=b:=z233 hl heq
    repeat (first | refine nx ?_ | (refine z3 fun K hK=>?_;simp only [go_sem];apply hK;clear hK K))
    simp only [go_sem,hab]
 ·have hne:((a.length:Int) != (b.length:Int))=true:=by simp;omega
  have hab:¬ a=b:=by rintro rfl;exact hl rfl
  simp only [go_sem,hne]
  refine z7 rfl ?_
  repeat (first | refine nx ?_ | (refine z3 fun K hK=>?_;simp only [go_sem];apply hK;clear hK K))
  simp only [go_sem,hab]
def exN:Net:=⟨4,[⟨0,1,2,⟨100,120⟩,⟨0,0⟩,[⟨0,2880⟩]⟩,⟨1,2,3,⟨60,90⟩,⟨4,10⟩,[⟨0,2880⟩]⟩,⟨2,3,2,⟨60,60⟩,⟨0,0⟩,[⟨400,700⟩]⟩,⟨0,3,2,⟨300,400⟩,⟨0,0⟩,[⟨0,2880⟩]⟩,⟨3,0,2,⟨200,240⟩,⟨0,0⟩,[⟨0,2880⟩]⟩]⟩
def exP:Party:=⟨3,0,⟨100,100⟩⟩
theorem z910:Fn Try.prog 40 [] (.tup [.agg exN.cells,.agg exP.cells]):=by
 refine z10 26 Try.call40 Try.func40 rfl (by decide) fun J=>?_
 simp only [go_sem,St.start,Try.ntmps40,Try.results40]
 repeat (first | refine nx ?_ | (refine z3 fun K hK=>?_;simp only [go_sem];(repeat (first | (refine ⟨_,.lent (hf:=z905 _ _) (hd:=rfl) (hr:=rfl),?_⟩;simp only [go_sem]) | (refine ⟨_,.given (hf:=z905 _ _) (hd:=rfl) (ha:=rfl),?_⟩;simp only [go_sem])));apply hK;clear hK K))
 simp only [go_sem,exN,exP,Net.cells,Party.cells,Path.row,Span.row]
theorem z619:exN.Small:=⟨by decide,by intro x hx;revert hx x;decide⟩
theorem z488:routeL exN exP 0 400 3=([0,1,2],715,0):=by kernel_rfl
theorem z375:latestL exN exP 0 3 900=(500,0):=by kernel_rfl
theorem z376:fewest exN exP 0 400 3 (getI (arrivalsL exN exP spanHi 0 400 (-1)) 3)=((3:Nat):Int):=by kernel_rfl
theorem z933:Fn Try.prog 13 [] (.bool true):=by
 have h15:=z932 exN exP 0 400 3 z619 (fun _ _=>⟨3,z376,by decide⟩)
 have h18:=z930 exN exP 0 3 900 z619
 rw [z488] at h15
 rw [z375] at h18
 have h17:=z931 [0,1,2] [0,1,2] (by decide)
 refine z10 44 Try.call13 Try.func13 rfl (by decide) fun J=>?_
 simp only [go_sem,St.start,Try.ntmps13,Try.results13]
 repeat (first | refine nx ?_ | (refine z3 fun K hK=>?_;simp only [go_sem,exN,exP,Net.cells,Party.cells];(repeat (first | (refine ⟨_,.lent (hf:=z910) (hd:=rfl) (hr:=rfl),?_⟩;simp only [go_sem,exN,exP,Net.cells,Party.cells]) | (refine ⟨_,.lent (hf:=h15) (hd:=rfl) (hr:=rfl),?_⟩;simp only [go_sem,exN,exP,Net.cells,Party.cells]) | (refine ⟨_,.lent (hf:=h18) (hd:=rfl) (hr:=rfl),?_⟩;simp only [go_sem,exN,exP,Net.cells,Party.cells]) | (refine ⟨_,.lent (hf:=h17) (hd:=rfl) (hr:=rfl),?_⟩;simp only [go_sem,exN,exP,Net.cells,Party.cells]) | (refine ⟨_,.given (hf:=z910) (hd:=rfl) (ha:=rfl),?_⟩;simp only [go_sem,exN,exP,Net.cells,Party.cells]) | (refine ⟨_,.given (hf:=h15) (hd:=rfl) (ha:=rfl),?_⟩;simp only [go_sem,exN,exP,Net.cells,Party.cells]) | (refine ⟨_,.given (hf:=h18) (hd:=rfl) (ha:=rfl),?_⟩;simp only [go_sem,exN,exP,Net.cells,Party.cells]) | (refine ⟨_,.given (hf:=h17) (hd:=rfl) (ha:=rfl),?_⟩;simp only [go_sem,exN,exP,Net.cells,Party.cells])));apply hK;clear hK K))
 simp only [go_sem]
end Go.Ab
namespace Go.Ab
open Go.RowKit Go.Proofs
set_option maxHeartbeats 4000000
set_option maxRecDepth 20000
attribute [local irreducible] WalkL Walk
def farB (n:Net):Bool:=decide ((n.paths.length:Int) > 26) || (n.paths.any (fun x=>decide ((x.opens.length:Int) > 8)) || (!badNet n && (decide (n.places > 6) || decide ((n.paths.length:Int) > 10))))
theorem z934 (n:Net) (hs:n.Small):Fn Try.prog 12 [.agg n.cells] (.bool (farB n)):=by
 have h27:=z850 n hs
 have hb0:=hs.paths
 refine z10 37 Try.call12 Try.func12 rfl (by decide) fun J=>?_
 simp only [go_sem,St.start,Try.ntmps12,Try.results12,Net.cells]
 repeat (first | refine nx ?_ | (refine z3 fun K hK=>?_;simp only [go_sem];apply hK;clear hK K))
 refine z5 rfl (fun hc=>?_) (fun hc=>?_)
 ·repeat (first | refine nx ?_ | (refine z3 fun K hK=>?_;simp only [go_sem];apply hK;clear hK K))
  simp only [go_sem,farB,hc]
 ·repeat (first | refine nx ?_ | (refine z3 fun K hK=>?_;simp only [go_sem];apply hK;clear hK K))
  refine z25 (fun (i:Nat)=>[(3,.d (.i i))]) (fun _=>[]) (fun i=>i≤n.paths.length∧(n.paths.take i).any (fun x=>decide ((x.opens.length:Int) > 8))=false) (fun i=>n.paths.length - i) 0 ?_ ⟨Nat.zero_le _,rfl⟩ ?_
  ·simp only [go_sem]
   refine weA ?_ ?_ <;> simp
  ·intro i ⟨hi,hall⟩
   simp only [go_sem]
   repeat (first | refine nx ?_ | (refine z3 fun K hK=>?_;simp only [go_sem];apply hK;clear hK K))
   refine z5 rfl (fun hb=>?_) (fun hb=>?_)
   ·have hlt:i<n.paths.length:=by simpa using hb
    have hw:IntKind.i64.wrap ((i:Int) + 1)=((i + 1:Nat):Int):=by rw [z12 (by omega)];simp
    obtain ⟨x,hx⟩:∃ x,n.paths[i]?=some x:=⟨_,List.getElem?_eq_getElem hlt⟩
    repeat (first | refine nx ?_ | (refine z3 fun K hK=>?_;simp only [go_sem,hx,List.getElem?_map,Path.row];apply hK;clear hK K))
    refine z5 rfl (fun hd=>?_) (fun hd=>?_)
    ·repeat (first | refine nx ?_ | (refine z3 fun K hK=>?_;simp only [go_sem];apply hK;clear hK K))
     have ha:=z142 (q:=fun x:Path=>decide ((x.opens.length:Int) > 8)) hx hd
     simp only [go_sem,farB,hc,ha]
    ·repeat (first | refine nx ?_ | (refine z3 fun K hK=>?_;simp only [go_sem,hw];apply hK;clear hK K))
     refine ⟨rfl,i + 1,?_,⟨hlt,z108 hx hall hd⟩,by omega⟩
     refine weA ?_ ?_ <;> simp
   ·have he:i=n.paths.length:=by (have:¬ i<n.paths.length:=by simpa using hb);omega
    subst he
    rw [List.take_length] at hall
    have hf:farB n=(!badNet n && (decide (n.places > 6) || decide ((n.paths.length:Int) > 10))):=by unfold farB;rw [hc,hall];rfl
    rw [hf]
    by_cases hbad:badNet n=true
    ·repeat (first | refine nx ?_ | (refine z3 fun K hK=>?_;simp only [go_sem,checkF,hbad];(repeat (first | (refine ⟨_,.lent (hf:=h27) (hd:=rfl) (hr:=rfl),?_⟩;simp only [go_sem,checkF,hbad]) | (refine ⟨_,.given (hf:=h27) (hd:=rfl) (ha:=rfl),?_⟩;simp only [go_sem,checkF,hbad])));apply hK;clear hK K))
     try simp only [go_sem,hbad]
    ·by_cases hp:n.places > 6
     ·repeat (first | refine nx ?_ | (refine z3 fun K hK=>?_;simp only [go_sem,checkF,hbad,hp];(repeat (first | (refine ⟨_,.lent (hf:=h27) (hd:=rfl) (hr:=rfl),?_⟩;simp only [go_sem,checkF,hbad,hp]) | (refine ⟨_,.given (hf:=h27) (hd:=rfl) (ha:=rfl),?_⟩;simp only [go_sem,checkF,hbad,hp])));apply hK;clear hK K))
      simp only [go_sem,hbad,hp]
     ·repeat (first | refine nx ?_ | (refine z3 fun K hK=>?_;simp only [go_sem,checkF,hbad,hp];(repeat (first | (refine ⟨_,.lent (hf:=h27) (hd:=rfl) (hr:=rfl),?_⟩;simp only [go_sem,checkF,hbad,hp]) | (refine ⟨_,.given (hf:=h27) (hd:=rfl) (ha:=rfl),?_⟩;simp only [go_sem,checkF,hbad,hp])));apply hK;clear hK K))
      simp only [go_sem,hbad,hp]
structure Trip where
 frm:Int
 to:Int
 start:Int
 deadline:Int
 route:List Int
 path:Int
def Trip.row (x:Trip):List DV:=[.i x.frm,.i x.to,.i x.start,.i x.deadline,.sl (intRows x.route),.i x.path]
def fitsB (n:Net) (p:Party) (x:Trip):Bool :=
 !farB n && (checkPartyF n p == 0 && (withinB x.frm 0 (n.places - 1) && (withinB x.to 0 (n.places - 1) && (withinB x.start 0 2880 && withinB x.deadline 0 2880))))
theorem z148 {n:Net} {p:Party}:checkPartyF n p=0↔n.Good∧p.Good:=by
 unfold checkPartyF
 constructor
 ·intro h
  split at h
  ·cases h
  ·rename_i h1
   split at h
   ·cases h
   ·rename_i h2;exact ⟨z176.1 h1,z165.1 h2⟩
 ·rintro ⟨h1,h2⟩
  rw [if_neg (z176.2 h1),if_neg (z165.2 h2)]
theorem z929 (n:Net) (p:Party) (x:Trip) (hs:n.Small):Fn Try.prog 20 [.agg n.cells,.agg p.cells,.agg x.row] (.bool (fitsB n p x)):=by
 have h12:=z934 n hs
 have h56:=z922 n p hs
 refine z10 38 Try.call20 Try.func20 rfl (by decide) fun J=>?_
 simp only [go_sem,St.start,Try.ntmps20,Try.results20,Net.cells,Party.cells,Trip.row]
 by_cases hc:checkPartyF n p=0
 ·have hpl:=(z148.1 hc).1.places
  have h57:=fun y=>z888 n y (by omega)
  have hcb:(checkPartyF n p == 0)=true:=by simp [hc]
  repeat (first | refine nx ?_ | (refine z3 fun K hK=>?_;simp only [go_sem,hcb];(repeat (first | (refine ⟨_,.lent (hf:=h12) (hd:=rfl) (hr:=rfl),?_⟩;simp only [go_sem,hcb]) | (refine ⟨_,.given (hf:=h12) (hd:=rfl) (ha:=rfl),?_⟩;simp only [go_sem,hcb])));apply hK;clear hK K))
  refine z41 [(6,.d (.bool (fitsB n p x)))] [] ?_ ?_
  ·refine z3 fun K hK=>?_
   simp only [go_sem,hcb]
   refine ⟨_,.lent (hf:=h12) (hd:=rfl) (hr:=rfl),?_⟩
   simp only [go_sem,hcb]
   by_cases ho0:(!farB n)=true
   ·simp only [go_sem,hcb,ho0]
    refine ⟨_,.lent (hf:=h56) (hd:=rfl) (hr:=rfl),?_⟩
    simp only [go_sem,hcb,ho0]
    refine ⟨_,.lent (hf:=h57 x.frm) (hd:=rfl) (hr:=rfl),?_⟩
    simp only [go_sem,hcb,ho0]
    by_cases ho1:(withinB x.frm 0 (n.places - 1))=true
    ·simp only [go_sem,hcb,ho0,ho1]
     refine ⟨_,.lent (hf:=h57 x.to) (hd:=rfl) (hr:=rfl),?_⟩
     simp only [go_sem,hcb,ho0,ho1]
     by_cases ho2:(withinB x.to 0 (n.places - 1))=true
     ·simp only [go_sem,hcb,ho0,ho1,ho2]
      refine ⟨_,.lent (hf:=z887 x.start) (hd:=rfl) (hr:=rfl),?_⟩
      simp only [go_sem,hcb,ho0,ho1,ho2]
      by_cases ho3:(withinB x.start 0 2880)=true
      ·simp only [go_sem,hcb,ho0,ho1,ho2,ho3]
       refine ⟨_,.lent (hf:=z887 x.deadline) (hd:=rfl) (hr:=rfl),?_⟩
       simp only [go_sem,hcb,ho0,ho1,ho2,ho3]
       apply hK
       clear hK K
       refine z8 ?_
       refine z6 ?_
       refine ⟨rfl,?_⟩
       rw [show (fitsB n p x)=(withinB x.deadline 0 2880) from by simp [fitsB,hcb,ho0,ho1,ho2,ho3]]
       simp only [go_sem]
       refine weA ?_ ?_ <;> simp
      ·simp only [go_sem,hcb,ho0,ho1,ho2,ho3]
       apply hK
       clear hK K
       refine z8 ?_
       refine z6 ?_
       refine ⟨rfl,?_⟩
       rw [show (fitsB n p x)=(false) from by simp [fitsB,hcb,ho0,ho1,ho2,ho3]]
       simp only [go_sem]
       refine weA ?_ ?_ <;> simp
     ·simp only [go_sem,hcb,ho0,ho1,ho2]
      apply hK
      clear hK K
      refine z8 ?_
      refine z6 ?_
      refine ⟨rfl,?_⟩
      rw [show (fitsB n p x)=(false) from by simp [fitsB,hcb,ho0,ho1,ho2]]
      simp only [go_sem]
      refine weA ?_ ?_ <;> simp
    ·simp only [go_sem,hcb,ho0,ho1]
     apply hK
     clear hK K
     refine z8 ?_
     refine z6 ?_
     refine ⟨rfl,?_⟩
     rw [show (fitsB n p x)=(false) from by simp [fitsB,hcb,ho0,ho1]]
     simp only [go_sem]
     refine weA ?_ ?_ <;> simp
   ·simp only [go_sem,hcb,ho0]
    apply hK
    clear hK K
    refine z8 ?_
    refine z6 ?_
    refine ⟨rfl,?_⟩
    rw [show (fitsB n p x)=(false) from by simp [fitsB,hcb,ho0]]
    simp only [go_sem]
    refine weA ?_ ?_ <;> simp
  ·simp only [go_sem]
   repeat (first | refine nx ?_ | (refine z3 fun K hK=>?_;simp only [go_sem];apply hK;clear hK K))
   simp only [go_sem]
 ·have hcb:(checkPartyF n p == 0)=false:=by simp [hc]
  have hf:fitsB n p x=false:=by simp [fitsB,hcb]
  by_cases hfar:farB n=true
  ·repeat (first | refine nx ?_ | (refine z3 fun K hK=>?_;simp only [go_sem,hcb,hfar];(repeat (first | (refine ⟨_,.lent (hf:=h12) (hd:=rfl) (hr:=rfl),?_⟩;simp only [go_sem,hcb,hfar]) | (refine ⟨_,.given (hf:=h12) (hd:=rfl) (ha:=rfl),?_⟩;simp only [go_sem,hcb,hfar])));apply hK;clear hK K))
   try simp only [go_sem,hf]
  ·repeat (first | refine nx ?_ | (refine z3 fun K hK=>?_;simp only [go_sem,hcb,hfar];(repeat (first | (refine ⟨_,.lent (hf:=h12) (hd:=rfl) (hr:=rfl),?_⟩;simp only [go_sem,hcb,hfar]) | (refine ⟨_,.lent (hf:=h56) (hd:=rfl) (hr:=rfl),?_⟩;simp only [go_sem,hcb,hfar]) | (refine ⟨_,.given (hf:=h12) (hd:=rfl) (ha:=rfl),?_⟩;simp only [go_sem,hcb,hfar]) | (refine ⟨_,.given (hf:=h56) (hd:=rfl) (ha:=rfl),?_⟩;simp only [go_sem,hcb,hfar])));apply hK;clear hK K))
   simp only [go_sem,hf]
end Go.Ab
/- Plain laws of layer 1: paths,arrivals,deadlines. -/
namespace Go.Ab
open Go.RowKit Go.Proofs
set_option maxHeartbeats 1000000
theorem z92 (t b:Int):∀ (l:List Span) (f:Int),l.foldl (fun f s=>if t≤s.hi then min f (max t s.lo) else f) f≤b↔f≤b∨∃ s ∈ l,t≤s.hi∧max t s.lo≤b
 | [],f=>by simp
 | s::l,f=>by
  rw [List.foldl_cons,z92 t b l]
  simp only [List.mem_cons,exists_eq_or_imp]
  split
  ·rename_i h
   constructor
   ·rintro (h1 | h1)
    ·by_cases h2:f≤b
     ·exact .inl h2
     ·exact .inr (.inl ⟨h,by omega⟩)
    ·exact .inr (.inr h1)
   ·rintro (h1 | h1 | h1)
    ·exact .inl (by omega)
    ·exact .inl (by omega)
    ·exact .inr h1
  ·rename_i h
   constructor
   ·rintro (h1 | h1)
    ·exact .inl h1
    ·exact .inr (.inr h1)
   ·rintro (h1 | h1 | h1)
    ·exact .inl h1
    ·omega
    ·exact .inr h1
theorem z593 (opens:List Span) (t:Int):enterF opens t≤never:=(z92 t never opens _).2 (.inl (by decide))
theorem z621 {opens:List Span} {t:Int} (h:enterF opens t<never):t≤enterF opens t:=by
 have h1:=(z92 t (enterF opens t) opens 1073741824).1 (Int.le_refl _)
 rcases h1 with h1 | ⟨s,_,_,h1⟩
 ·have:(1073741824:Int)=never:=rfl
  omega
 ·omega
theorem z473 {opens:List Span} {t:Int} (h:0≤t):0≤enterF opens t:=by
 by_cases h1:enterF opens t<never
 ·have:=z621 h1;omega
 ·have:(1073741824:Int)=never:=rfl
  omega
def okTime (d:Int):Prop:=1≤d∧d≤6000
theorem z485 {opens:List Span} {t d:Int} (ht:0≤t) (hd:okTime d):arriveF opens t d=if enterF opens t + d > 2880 then never else enterF opens t + d:=by
 have h1:=z473 (opens:=opens) ht
 have h2:=z593 opens t
 have hv:never=1073741824:=rfl
 have hw:wr (enterF opens t + d)=enterF opens t + d:=z12 (by unfold okTime at hd;omega)
 unfold arriveF
 rw [hw]
 rfl
theorem z79 {opens:List Span} {t d b:Int} (ht:0≤t) (hd:okTime d) (hb:b≤2880):arriveF opens t d≤b↔∃ s ∈ opens,t≤s.hi∧max t s.lo≤b - d:=by
 have hv:never=1073741824:=rfl
 unfold okTime at hd
 rw [z485 ht hd]
 have h:=z92 t (b - d) opens 1073741824
 change enterF opens t≤b - d↔_ at h
 constructor
 ·intro h1
  split at h1
  ·omega
  ·rcases h.1 (by omega) with h2 | h2
   ·omega
   ·exact h2
 ·intro h1
  have:=h.2 (.inr h1)
  rw [if_neg (by omega)]
  omega
theorem z55 {opens:List Span} {t d:Int} (ht:0≤t) (hd:okTime d):arriveF opens t d=never∨(t + d≤arriveF opens t d∧arriveF opens t d≤2880):=by
 have hv:never=1073741824:=rfl
 unfold okTime at hd
 rw [z485 ht hd]
 split
 ·exact .inl rfl
 ·have:=z621 (opens:=opens) (t:=t) (by omega)
  exact .inr (by omega)
theorem z249 {opens:List Span} {t t' d:Int} (ht:0≤t) (hle:t≤t') (hd:okTime d):arriveF opens t d≤arriveF opens t' d:=by
 have hv:never=1073741824:=rfl
 rcases z55 (opens:=opens) (t:=t') (by omega) hd with h | ⟨h1,h2⟩
 ·rw [h]
  rcases z55 (opens:=opens) ht hd with h' | h'
  ·omega
  ·omega
 ·obtain ⟨s,q1,q2,q3⟩:=(z79 (b:=arriveF opens t' d) (by omega) hd h2).1 (Int.le_refl _)
  exact (z79 ht hd h2).2 ⟨s,q1,by omega,by omega⟩
theorem z321 {t pace snow load:Int} (ht:1≤t∧t≤600) (hp:50≤pace∧pace≤300) (hs:0≤snow∧snow≤30) (hl:0≤load∧load≤40) :
  timeW t pace snow load=(t * pace * (100 + 5 * snow + load) + 9999) / 10000∧okTime (timeW t pace snow load):=by
 have h1:50≤t * pace:=by have:=Int.mul_le_mul ht.1 hp.1 (by omega) (by omega);omega
 have h2:t * pace≤180000:=by have:=Int.mul_le_mul ht.2 hp.2 (by omega) (by omega);omega
 have h3:100≤100 + 5 * snow + load:=by omega
 have h4:100 + 5 * snow + load≤290:=by omega
 have h5:5000≤t * pace * (100 + 5 * snow + load):=by have:=Int.mul_le_mul h1 h3 (by omega) (by omega);omega
 have h6:t * pace * (100 + 5 * snow + load)≤52200000:=by have:=Int.mul_le_mul h2 h4 (by omega) (by omega);omega
 have e1:wr (t * pace)=t * pace:=z12 (by omega)
 have e2:wr (5 * snow)=5 * snow:=z12 (by omega)
 have e3:wr (100 + 5 * snow)=100 + 5 * snow:=z12 (by omega)
 have e4:wr (100 + 5 * snow + load)=100 + 5 * snow + load:=z12 (by omega)
 have e5:wr (t * pace * (100 + 5 * snow + load))=t * pace * (100 + 5 * snow + load):=z12 (by omega)
 have e6:wr (t * pace * (100 + 5 * snow + load) + 9999)=t * pace * (100 + 5 * snow + load) + 9999:=z12 (by omega)
 have e7:(t * pace * (100 + 5 * snow + load) + 9999).tdiv 10000=(t * pace * (100 + 5 * snow + load) + 9999) / 10000:=Int.tdiv_eq_ediv_of_nonneg (by omega)
 have h:timeW t pace snow load=(t * pace * (100 + 5 * snow + load) + 9999) / 10000:=by
  unfold timeW
  rw [e1,e2,e3,e4,e5,e6,e7]
  exact z12 (by omega)
 refine ⟨h,?_⟩
 rw [h]
 unfold okTime
 omega
theorem z562 {n:Net} {p:Party} {x:Path} (hx:x.Good n) (hp:p.Good):okTime (spanW x p).hi∧okTime (spanW x p).lo∧(spanW x p).lo≤(spanW x p).hi:=by
 obtain ⟨t1,t2,t3⟩:=hx.time
 obtain ⟨s1,s2,s3⟩:=hx.snow
 obtain ⟨p1,p2,p3⟩:=hp.pace
 obtain ⟨a1,a2⟩:=z321 (t:=x.time.hi) (pace:=p.pace.hi) (snow:=x.snow.hi) (load:=p.load) (by omega) (by omega) (by omega) hp.load
 obtain ⟨b1,b2⟩:=z321 (t:=x.time.lo) (pace:=p.pace.lo) (snow:=x.snow.lo) (load:=p.load) (by omega) (by omega) (by omega) hp.load
 have hl:=hp.load
 refine ⟨a2,b2,?_⟩
 show timeW _ _ _ _≤timeW _ _ _ _
 rw [a1,b1]
 have h1:x.time.lo * p.pace.lo≤x.time.hi * p.pace.hi:=Int.mul_le_mul t2 p2 (by omega) (by omega)
 have h2:x.time.lo * p.pace.lo * (100 + 5 * x.snow.lo + p.load)≤x.time.hi * p.pace.hi * (100 + 5 * x.snow.hi + p.load):=by
  refine Int.mul_le_mul h1 (by omega) (by omega) ?_
  exact Int.mul_nonneg (by omega) (by omega)
 omega
theorem z771 {α W:Type} (r:α × Bool→W→α × Bool) (h1:∀ a w,r a w=a∨(r a w).2=true) (h2:∀ a w,a.2=true→(r a w).2=true) :
  ∀ (ws:List W) (a:α × Bool),(ws.foldl r a).2=false→ws.foldl r a=a∧∀ w ∈ ws,r a w=a:=by
 have keep:∀ (ws:List W) (a:α × Bool),a.2=true→(ws.foldl r a).2=true:=by
  intro ws
  induction ws with
  | nil=>exact fun _ h=>h
  | cons w ws ih=>exact fun a h=>by rw [List.foldl_cons];exact ih _ (h2 a w h)
 intro ws
 induction ws with
 | nil=>exact fun a _=>⟨rfl,by simp⟩
 | cons w ws ih =>
  intro a h
  rw [List.foldl_cons] at h ⊢
  rcases h1 a w with e | e
  ·rw [e] at h ⊢
   obtain ⟨q1,q2⟩:=ih a h
   exact ⟨q1,by intro w' hw';rcases List.mem_cons.1 hw' with rfl | hw';exact e;exact q2 w' hw'⟩
  ·rw [keep ws _ e] at h;cases h
theorem z214 (l:List Int) (k y v:Int) (hk:0≤k) (hkl:k.toNat<l.length) (hy:0≤y):getI (l.set k.toNat v) y=if y=k then v else getI l y:=by
 unfold getI
 rw [List.getD_eq_getElem?_getD,List.getD_eq_getElem?_getD,List.getElem?_set]
 by_cases h:y=k
 ·subst h;simp [hkl]
 ·rw [if_neg (by omega),if_neg h]
inductive Reach (ws:List (Nat × Path)) (dur:Path→Int) (x s:Int):Int→Int→Prop where
 | refl:Reach ws dur x s x s
 | step {y t:Int} (w:Nat × Path):Reach ws dur x s y t→w ∈ ws→w.2.frm=y→arriveF w.2.opens t (dur w.2)≤2880→Reach ws dur x s w.2.to (arriveF w.2.opens t (dur w.2))
def OkWs (n:Net) (dur:Path→Int) (ws:List (Nat × Path)):Prop:=∀ w ∈ ws,(0≤w.2.frm∧w.2.frm<n.places)∧(0≤w.2.to∧w.2.to<n.places)∧okTime (dur w.2)
theorem z150 {n:Net} {p:Party} (hn:n.Good) (hp:p.Good) (but:Int):OkWs n (fun x=>(spanW x p).hi) (waysL n p but)∧OkWs n (fun x=>(spanW x p).lo) (waysL n p but):=by
 constructor <;>
 ·intro w hw
  have hg:=hn.path w.2 (List.mem_of_getElem? (z70 hw))
  have:=z562 hg hp
  exact ⟨hg.frm,hg.to,by first | exact this.1 | exact this.2.1⟩
theorem Reach.range {n:Net} {ws:List (Nat × Path)} {dur:Path→Int} (hw:OkWs n dur ws) {x s y t:Int} (hs:0≤s∧s≤2880) (hx:0≤x∧x<n.places) (h:Reach ws dur x s y t) :
  s≤t∧t≤2880∧0≤y∧y<n.places:=by
 induction h with
 | refl=>omega
 | @step y t w _ hm hf hle ih =>
  obtain ⟨h1,h2,h3⟩:=hw w hm
  have hv:never=1073741824:=rfl
  rcases z55 (opens:=w.2.opens) (t:=t) (d:=dur w.2) (by omega) h3 with h | h
  ·omega
  ·unfold okTime at h3;omega
theorem Reach.mono {n:Net} {ws:List (Nat × Path)} {dur:Path→Int} (hw:OkWs n dur ws) {x s s' y t:Int} (hs:0≤s'∧s'≤s) (h2:s≤2880) (hx:0≤x∧x<n.places) (h:Reach ws dur x s y t):∃ t',t'≤t∧Reach ws dur x s' y t':=by
 induction h with
 | refl=>exact ⟨s',hs.2,.refl⟩
 | @step y t w hr hm hf hle ih =>
  obtain ⟨t',ht',hr'⟩:=ih
  have hrg:=hr'.range hw (by omega) hx
  have:=z249 (opens:=w.2.opens) (t:=t') (t':=t) (d:=dur w.2) (by omega) ht' (hw w hm).2.2
  exact ⟨_,this,.step w hr' hm hf (by omega)⟩
end Go.Ab
/- Plain laws of layer 1: what the passes come to. -/
namespace Go.Ab
open Go.RowKit Go.Proofs
set_option maxHeartbeats 1000000
theorem Reach.trans {ws:List (Nat × Path)} {dur:Path→Int} {x s y t z u:Int} (h:Reach ws dur x s y t) (h':Reach ws dur y t z u):Reach ws dur x s z u:=by
 induction h' with
 | refl=>exact h
 | step w _ hm hf hle ih=>exact .step w ih hm hf hle
theorem Reach.one {ws:List (Nat × Path)} {dur:Path→Int} {t:Int} {w:Nat × Path} (hm:w ∈ ws) (hle:arriveF w.2.opens t (dur w.2)≤2880):Reach ws dur w.2.frm t w.2.to (arriveF w.2.opens t (dur w.2)) :=
 .step w .refl hm rfl hle
theorem z436 (p:Party) (q:Span→Int) (a:List Int × Bool) (w:Nat × Path):relaxA p q a w=a∨(relaxA p q a w).2=true:=by
 unfold relaxA
 split
 ·exact .inl rfl
 ·dsimp only;split
  ·exact .inr rfl
  ·exact .inl rfl
theorem z571 (p:Party) (q:Span→Int) (a:List Int × Bool) (w:Nat × Path) (h:a.2=true):(relaxA p q a w).2=true:=by
 rcases z436 p q a w with e | e
 ·rw [e];exact h
 ·exact e
section
variable {n:Net} {p:Party} {q:Span→Int} {but frm start:Int}
def ArrInv (n:Net) (ws:List (Nat × Path)) (dur:Path→Int) (frm start:Int) (l:List Int):Prop :=
 l.length=n.places.toNat∧getI l frm≤start∧∀ y,0≤y→y<n.places→getI l y=never∨(0≤getI l y∧getI l y≤2880∧Reach ws dur frm start y (getI l y))
theorem z687 {ws:List (Nat × Path)} (hw:OkWs n (fun x=>q (spanW x p)) ws) (hf:0≤frm∧frm<n.places) (a:List Int × Bool) (w:Nat × Path) (hm:w ∈ ws) (h:ArrInv n ws (fun x=>q (spanW x p)) frm start a.1) :
  ArrInv n ws (fun x=>q (spanW x p)) frm start (relaxA p q a w).1:=by
 obtain ⟨w1,w2,w3⟩:=hw w hm
 have w3:okTime (q (spanW w.2 p)):=w3
 obtain ⟨h1,h2,h3⟩:=h
 have hv:never=1073741824:=rfl
 unfold relaxA
 split
 ·exact ⟨h1,h2,h3⟩
 ·rename_i hn
  dsimp only
  split
  ·rename_i hlt
   have hsz:w.2.to.toNat<a.1.length:=by omega
   rcases h3 w.2.frm w1.1 w1.2 with h4 | ⟨h4,h5,h6⟩
   ·exact absurd h4 hn
   have hle:arriveF w.2.opens (getI a.1 w.2.frm) (q (spanW w.2 p))≤2880:=by
    rcases z55 (opens:=w.2.opens) h4 w3 with h | h
    ·rcases h3 w.2.to w2.1 w2.2 with h7 | h7 <;> omega
    ·omega
   have hge:0≤arriveF w.2.opens (getI a.1 w.2.frm) (q (spanW w.2 p)):=by
    rcases z55 (opens:=w.2.opens) h4 w3 with h | h
    ·omega
    ·unfold okTime at w3;omega
   refine ⟨by simpa using h1,?_,fun y hy hyn=>?_⟩
   ·rw [z214 _ _ _ _ w2.1 hsz hf.1]
    split
    ·rename_i e;subst e;omega
    ·exact h2
   ·rw [z214 _ _ _ _ w2.1 hsz hy]
    split
    ·rename_i e;subst e
     exact .inr ⟨hge,hle,.step w h6 hm rfl hle⟩
    ·exact h3 y hy hyn
  ·exact ⟨h1,h2,h3⟩
theorem z468 {ws:List (Nat × Path)} (hw:OkWs n (fun x=>q (spanW x p)) ws) (hf:0≤frm∧frm<n.places):∀ (vs:List (Nat × Path)) (a:List Int × Bool),(∀ w ∈ vs,w ∈ ws)→ArrInv n ws (fun x=>q (spanW x p)) frm start a.1 →
  ArrInv n ws (fun x=>q (spanW x p)) frm start (vs.foldl (relaxA p q) a).1
 | [],_,_,h=>h
 | w::vs,a,hs,h=>by
  rw [List.foldl_cons]
  exact z468 hw hf vs _ (fun w' h'=>hs w' (by simp [h'])) (z687 hw hf a w (hs w (by simp)) h)
theorem z469 (hw:OkWs n (fun x=>q (spanW x p)) (waysL n p but)) (hf:0≤frm∧frm<n.places):∀ (k:Nat) (l:List Int),fallM l<k→ArrInv n (waysL n p but) (fun x=>q (spanW x p)) frm start l →
  ArrInv n (waysL n p but) (fun x=>q (spanW x p)) frm start (fixA n p q but k l)∧∀ w ∈ waysL n p but,relaxA p q (fixA n p q but k l,false) w=(fixA n p q but k l,false)
 | 0,l,h,_=>by omega
 | k + 1,l,h,hi=>by
  have hM:=z588 p q (waysL n p but) (l,false) (fun w hm=>by have:=(hw w hm).2.1;have:=hi.1;show w.2.to.toNat<l.length;omega)
  unfold fixA
  split
  ·rename_i hc
   have hlt:=hM.2 rfl hc
   refine z469 hw hf k _ (by show fallM (passA n p q but l).1<k;unfold passA;dsimp only at hlt;omega) ?_
   exact z468 hw hf _ (l,false) (fun _ h=>h) hi
  ·rename_i hc
   obtain ⟨e1,e2⟩:=z771 (relaxA p q) (z436 p q) (z571 p q) (waysL n p but) (l,false) (by simpa [passA] using hc)
   have e3:(passA n p q but l).1=l:=by unfold passA;rw [e1]
   rw [e3]
   exact ⟨hi,e2⟩
theorem z140 (hw:OkWs n (fun x=>q (spanW x p)) (waysL n p but)) (hf:0≤frm∧frm<n.places) (hs:0≤start∧start≤2880) :
  (∀ y,0≤y→y<n.places→getI (arrivalsL n p q frm start but) y=never∨(0≤getI (arrivalsL n p q frm start but) y∧getI (arrivalsL n p q frm start but) y≤2880∧Reach (waysL n p but) (fun x=>q (spanW x p)) frm start y (getI (arrivalsL n p q frm start but) y))) ∧
  ∀ y t,Reach (waysL n p but) (fun x=>q (spanW x p)) frm start y t→getI (arrivalsL n p q frm start but) y≤t:=by
 have hv:never=1073741824:=rfl
 have h0:ArrInv n (waysL n p but) (fun x=>q (spanW x p)) frm start (arrivals0 n frm start):=by
  have hl:frm.toNat<(List.replicate n.places.toNat never).length:=by simp;omega
  refine ⟨by simp [arrivals0],?_,fun y hy hyn=>?_⟩
  ·unfold arrivals0;rw [z214 _ _ _ _ hf.1 hl hf.1,if_pos rfl];exact Int.le_refl _
  ·unfold arrivals0
   rw [z214 _ _ _ _ hf.1 hl hy]
   split
   ·rename_i e;subst e;exact .inr ⟨hs.1,hs.2,.refl⟩
   ·left;unfold getI;rw [List.getD_eq_getElem?_getD,List.getElem?_replicate,if_pos (by omega)];rfl
 obtain ⟨⟨h1,h2,h3⟩,h4⟩:=z469 hw hf (fallM (arrivals0 n frm start) + 1) (arrivals0 n frm start) (Nat.lt_succ_self _) h0
 change ((arrivalsL n p q frm start but).length=_) at h1
 refine ⟨h3,fun y t hr=>?_⟩
 have key:∀ y t,Reach (waysL n p but) (fun x=>q (spanW x p)) frm start y t→getI (arrivalsL n p q frm start but) y≤t∧t≤2880∧0≤t:=by
  intro y t hr
  induction hr with
  | refl=>exact ⟨h2,hs.2,hs.1⟩
  | @step y t w hr hm hfe hle ih =>
   obtain ⟨w1,w2,w3⟩:=hw w hm
   have w3:okTime (q (spanW w.2 p)):=w3
   obtain ⟨i1,i2,i3⟩:=ih
   have hge:0≤arriveF w.2.opens t (q (spanW w.2 p)):=by
    rcases z55 (opens:=w.2.opens) i3 w3 with h | h
    ·omega
    ·unfold okTime at w3;omega
   refine ⟨?_,hle,hge⟩
   have h5:=h4 w hm
   change relaxA p q (arrivalsL n p q frm start but,false) w=(arrivalsL n p q frm start but,false) at h5
   unfold relaxA at h5
   rw [hfe] at h5
   split at h5
   ·rename_i h6;dsimp only at h6;omega
   ·dsimp only at h5
    split at h5
    ·exact absurd (congrArg Prod.snd h5) (by simp)
    ·rename_i h6
     have h7:0≤getI (arrivalsL n p q frm start but) y:=by
      rcases h3 y (by omega) (by omega) with h | h
      ·have h8:getI (arrivalsL n p q frm start but) y=never:=h
       omega
      ·exact h.1
     have h8:=z249 (opens:=w.2.opens) h7 i1 w3
     show getI (arrivalsL n p q frm start but) w.2.to≤arriveF w.2.opens t (q (spanW w.2 p))
     omega
 exact (key y t hr).1
end
section
variable {n:Net} {p:Party} {to b:Int}
abbrev durHi (p:Party):Path→Int:=fun x=>(spanW x p).hi
abbrev durLo (p:Party):Path→Int:=fun x=>(spanW x p).lo
def DeadInv (n:Net) (p:Party) (to b:Int) (l:List Int):Prop :=
 l.length=n.places.toNat∧b≤getI l to∧∀ x,0≤x→x<n.places→-1≤getI l x∧getI l x≤2880∧(0≤getI l x→∃ t,t≤b∧Reach (waysL n p (-1)) (durHi p) x (getI l x) to t)
end
end Go.Ab
namespace Go.Ab
open Go.RowKit Go.Proofs
set_option maxHeartbeats 4000000
set_option maxRecDepth 20000
attribute [local irreducible] WalkL Walk
structure Fits (n:Net) (p:Party) (x:Trip):Prop where
 net:n.Good
 party:p.Good
 few:n.places≤6∧n.paths.length≤10
 frm:0≤x.frm∧x.frm<n.places
 to:0≤x.to∧x.to<n.places
 start:0≤x.start∧x.start≤2880
 deadline:0≤x.deadline∧x.deadline≤2880
end Go.Ab
namespace Go.Ab
open Go.RowKit
inductive Sh where
 | int (k:IntKind)
 | bool
 | sl (row:List Sh)
mutual
def Sh.fits (N:Nat):Sh→DV→Prop
 | .int k,d=>∃ n,d=.int k n∧(Lit.int k n).wf=true
 | .bool,d=>∃ b,d=.bool b
 | .sl r,d=>∃ rows,d=.sl rows∧rows.length≤N∧∀ row ∈ rows,Sh.fitsL N r row
def Sh.fitsL (N:Nat):List Sh→List DV→Prop
 | [],ds=>ds=[]
 | s::ss,ds=>∃ d r,ds=d::r∧Sh.fits N s d∧Sh.fitsL N ss r
end
theorem Sh.fitsL_len {N:Nat}:∀ {ss:List Sh} {ds:List DV},Sh.fitsL N ss ds→ds.length=ss.length
 | [],_,h=>by simp only [Sh.fitsL] at h;subst h;rfl
 | s::ss,ds,h=>by
  simp only [Sh.fitsL] at h
  obtain ⟨d,r,rfl,_,h⟩:=h
  simp [Sh.fitsL_len h]
theorem Sh.fitsL_append {N:Nat}:∀ {ss ts:List Sh} {ds es:List DV},Sh.fitsL N ss ds→Sh.fitsL N ts es→Sh.fitsL N (ss++ts) (ds++es)
 | [],_,_,_,h,k=>by simp only [Sh.fitsL] at h;subst h;simpa using k
 | s::ss,ts,ds,es,h,k=>by
  simp only [Sh.fitsL] at h
  obtain ⟨d,r,rfl,hd,h⟩:=h
  simp only [List.cons_append,Sh.fitsL]
  exact ⟨d,r++es,rfl,hd,Sh.fitsL_append h k⟩
def shapesF (P:Program) (g:TypeId→Option (List Sh)):List Field→Nat→Option (List Sh)
 | [],_=>some []
 | f::fs,o=>if f.offset=o then (g f.type).bind fun r=>if P.cellsOf f.type=r.length then (shapesF P g fs (o + r.length)).map fun s=>r++s else none else none
def shapes (P:Program):Nat→TypeId→Option (List Sh)
 | 0,_=>none
 | n + 1,t=>match P.underlying t with
  | some .bool=>some [.bool]
  | some (.int k)=>some [.int k]
  | some (.slice e)=>(shapes P n e).bind fun r=>if P.cellsOf e=r.length∧0<r.length then some [.sl r] else none
  | some (.struct fs)=>(shapesF P (shapes P n) fs.toList 0).bind fun r=>if P.cellsOf t=r.length then some r else none
  | _=>none
structure BulkOk {H:Type} (b:DataW H→Nat):Prop where
 slice:∀ elems spare,elems.length≤b (.slice elems spare)
 elem:∀ elems spare,∀ d ∈ elems,b d≤b (.slice elems spare)
 part:∀ parts,∀ d ∈ parts,b d≤b (.agg parts)
def Reads (w:World) (ds:List DV) (cs:List Value):Prop :=
 ∀ (i:Nat) d v,ds[i]?=some d→cs[i]?=some v→v.oneCell'=true∧DRel w (fun _=>False) d v
section
variable {H:Type} {enc:TypeId × Value→H} {P:Program} {w:World} {sp:Nat→Bool} {held:Bool}
theorem z873 {b:DataW H→Nat} {N:Nat} {g:TypeId→Option (List Sh)} {m:Nat} {cs:List Value}
  (hg:∀ (t:TypeId) sh,g t=some sh→∀ cs d ps,DataW.trod enc P w 0 sp held m t cs=some (d,ps)→b d≤N→cs.length=sh.length∧∃ ds,Sh.fitsL N sh ds∧Reads w ds cs) :
  ∀ (fs:List Field) (xs:List (DataW H × List MemPlace)) (o:Nat) (sh:List Sh),shapesF P g fs o=some sh→xs.length=fs.length →
   (∀ (i:Nat) (f:Field),fs[i]?=some f→DataW.trod enc P w 0 sp held m f.type ((cs.drop f.offset).take (P.cellsOf f.type))=xs[i]?)→(∀ x ∈ xs,b x.1≤N) →
   ∃ ds,Sh.fitsL N sh ds∧Reads w ds (cs.drop o)
 | [],xs,o,sh,h,hl,_,_=>by
  simp only [shapesF,Option.some.injEq] at h
  subst h
  exact ⟨[],by simp [Sh.fitsL],fun i d v h=>by simp at h⟩
 | f::fs,xs,o,sh,h,hl,hx,hb=>by
  simp only [shapesF] at h
  split at h
  case isFalse=>cases h
  case isTrue ho =>
  obtain ⟨r,hr,h⟩:=Option.bind_eq_some_iff.1 h
  split at h
  case isFalse=>cases h
  case isTrue hc =>
  obtain ⟨s,hs,rfl⟩:=Option.map_eq_some_iff.1 h
  cases xs with
  | nil=>simp at hl
  | cons x xs =>
   have h0:=hx 0 f rfl
   rw [List.getElem?_cons_zero] at h0
   obtain ⟨hlen,ds,hf,hd⟩:=hg _ _ hr _ x.1 x.2 h0 (hb x (by simp))
   obtain ⟨es,he,hd'⟩:=z873 hg fs xs (o + r.length) s hs (by simpa using hl) (fun i f' hf'=>by simpa using hx (i + 1) f' (by simpa using hf')) (fun y hy=>hb y (by simp [hy]))
   have hdl:=Sh.fitsL_len hf
   refine ⟨ds++es,Sh.fitsL_append hf he,fun i d v h1 h2=>?_⟩
   rw [List.getElem?_drop] at h2
   rcases Nat.lt_or_ge i ds.length with hi | hi
   ·rw [List.getElem?_append_left hi] at h1
    refine hd i d v h1 ?_
    rw [List.getElem?_take,List.getElem?_drop,ho,if_pos (by omega),h2]
   ·rw [List.getElem?_append_right hi] at h1
    refine hd' (i - ds.length) d v h1 ?_
    rw [List.getElem?_drop]
    rw [show o + r.length + (i - ds.length)=o + i from by omega,h2]
theorem z773 {w:World} {a:Addr} {n:Nat} {cs:List Value} (h:w.cells? 0 a n=some cs):cs.length=n∧∀ j,j<n→w.cell? (a.add j)=cs[j]?:=by
 simp only [World.cells?,Nat.zero_le,if_true] at h
 exact ⟨by simpa using mapM_some_length h,fun j hj=>mapM_some_get h j j (by simp [hj])⟩
theorem z774 {w:World} {a:Addr} {v:Value} (h:w.cell? a=some v):a.spot=none:=by
 unfold World.cell? at h
 split at h
 ·split at h
  ·cases h
  ·cases hs:a.spot <;> simp_all
 ·cases h
theorem z223 {b:DataW H→Nat} (hb:BulkOk b) (N:Nat):∀ (n:Nat) (t:TypeId) (sh:List Sh),shapes P n t=some sh→∀ fuel cs d ps,DataW.trod enc P w 0 sp held fuel t cs=some (d,ps)→b d≤N →
  cs.length=sh.length∧∃ ds,Sh.fitsL N sh ds∧Reads w ds cs
 | 0,_,_,h=>by simp [shapes] at h
 | n + 1,t,sh,h=>by
  intro fuel cs d ps hd hN
  unfold shapes at h
  split at h
  case h_1 ht =>
   cases h
   obtain ⟨v,rfl,_⟩:=DataW.trod_bool ht hd
   refine ⟨rfl,[.bool v],?_,?_⟩
   ·simp [Sh.fitsL,Sh.fits]
   ·intro i d' v' h1 h2
    cases i with
    | zero=>simp only [List.getElem?_cons_zero,Option.some.injEq] at h1 h2;subst h1;subst h2;exact ⟨rfl,.bool _⟩
    | succ i=>simp at h1
  case h_2 k ht =>
   cases h
   obtain ⟨v,rfl,_,hw⟩:=DataW.trod_int ht hd
   refine ⟨rfl,[.int k v],?_,?_⟩
   ·simpa [Sh.fitsL,Sh.fits] using hw
   ·intro i d' v' h1 h2
    cases i with
    | zero=>simp only [List.getElem?_cons_zero,Option.some.injEq] at h1 h2;subst h1;subst h2;exact ⟨rfl,.int _ _⟩
    | succ i=>simp at h1
  case h_3 e ht =>
   obtain ⟨r,hr,h⟩:=Option.bind_eq_some_iff.1 h
   split at h
   case isFalse=>cases h
   case isTrue hc =>
   obtain ⟨hc,hp⟩:=hc
   cases h
   rcases DataW.trod_slice ht hd with ⟨rfl,_⟩ | ⟨a,len,cap,elems,rest,m,rfl,rfl,hx,_,hcap,_,hl,hel,_⟩
   ·refine ⟨rfl,[.sl []],?_,?_⟩
    ·simp [Sh.fitsL,Sh.fits]
    ·intro i d' v' h1 h2
     cases i with
     | zero=>simp only [List.getElem?_cons_zero,Option.some.injEq] at h1 h2;subst h1;subst h2;exact ⟨rfl,.slNil⟩
     | succ i=>simp at h1
   ·obtain rfl:d=.slice (elems.map (·.1)) (rest.map (·.1)):=congrArg Prod.fst hx
    have hrow:∀ i:Nat,∃ ds:List DV,i<len→Sh.fitsL N r ds∧∀ j d,ds[j]?=some d→∃ v,w.cell? (a.add (i * r.length) |>.add j)=some v∧v.oneCell'=true∧DRel w (fun _=>False) d v:=by
     intro i
     by_cases hi:i<len
     ·have h1:=hel i hi
      rw [List.getElem?_eq_getElem (by omega)] at h1
      obtain ⟨cs',hcs,htr⟩:=Option.bind_eq_some_iff.1 h1
      have hin:(elems[i]'(by omega)).1 ∈ elems.map (·.1):=List.mem_map.2 ⟨_,List.getElem_mem _,rfl⟩
      obtain ⟨hlen,ds,hf,hds⟩:=z223 hb N n e r hr m cs' (elems[i]'(by omega)).1 (elems[i]'(by omega)).2 htr (Nat.le_trans (hb.elem _ _ _ hin) hN)
      refine ⟨ds,fun _=>⟨hf,fun j d hj=>?_⟩⟩
      have hjl:j<ds.length:=by
       rcases Nat.lt_or_ge j ds.length with h | h
       ·exact h
       ·rw [List.getElem?_eq_none h] at hj;cases hj
      rw [Sh.fitsL_len hf] at hjl
      have hcell:=(z773 hcs).2 j (by omega)
      rw [hc] at hcell
      have hv:cs'[j]?=some (cs'[j]'(by omega)):=List.getElem?_eq_getElem _
      rw [hv] at hcell
      exact ⟨_,hcell,hds j d _ hj hv⟩
     ·exact ⟨[],fun h=>absurd h hi⟩
    have hcho:=Classical.axiomOfChoice hrow
    obtain ⟨F,hF⟩:=hcho
    have hrl:((List.range len).map F).length=len:=by simp
    refine ⟨rfl,[.sl ((List.range len).map F)],?_,?_⟩
    ·simp only [Sh.fitsL,Sh.fits]
     refine ⟨_,_,rfl,⟨_,rfl,?_,?_⟩,rfl⟩
     ·rw [hrl]
      have:=hb.slice (elems.map (·.1)) (rest.map (·.1))
      simp only [List.length_map] at this
      omega
     ·intro row hrow
      obtain ⟨i,hi,rfl⟩:=List.mem_map.1 hrow
      exact (hF i (by simpa using hi)).1
    ·intro i d' v' h1 h2
     cases i with
     | succ i=>simp at h1
     | zero =>
      simp only [List.getElem?_cons_zero,Option.some.injEq] at h1 h2
      subst h1;subst h2
      refine ⟨rfl,?_⟩
      cases hlen:len with
      | zero=>exact .slEmpty _ _
      | succ l =>
       have hspot:a.spot=none:=by
        have h0:=hF 0 (by omega)
        have hfl:=Sh.fitsL_len h0.1
        obtain ⟨v,hv,_⟩:=h0.2 0 ((F 0)[0]'(by omega)) (List.getElem?_eq_getElem _)
        simp only [Nat.zero_mul,Addr.add,if_true] at hv
        exact z774 hv
       obtain ⟨blk,off,spot⟩:=a
       simp only at hspot
       subst hspot
       have hadd:∀ i j,(Addr.add (Addr.add ⟨blk,off,none⟩ (i * r.length)) j)=⟨blk,off + i * r.length + j,none⟩:=by
        intro i j
        unfold Addr.add
        by_cases h1:i * r.length=0 <;> by_cases h2:j=0 <;> simp [h1,h2]
       have hall:∀ (i:Nat) (r':List DV) (j:Nat) (d:DV),((List.range len).map F)[i]?=some r'→r'[j]?=some d→∃ v,w.cell? ⟨blk,off + i * r.length + j,none⟩=some v∧v.oneCell'=true∧DRel w (fun _=>False) d v:=by
        intro i r' j d h1 h2
        rw [List.getElem?_map] at h1
        obtain ⟨i',hi',rfl⟩:=Option.map_eq_some_iff.1 h1
        obtain ⟨hil,rfl⟩:=List.getElem?_eq_some_iff.1 hi'
        simp only [List.length_range] at hil
        simp only [List.getElem_range] at h2
        obtain ⟨v,hv,h3,h4⟩:=(hF i hil).2 j d h2
        rw [hadd] at hv
        exact ⟨v,hv,h3,h4⟩
       have hfin:=DRel.sl (w:=w) (own:=fun _=>False) ((List.range len).map F) blk off r.length cap (fun i j=>(w.cell? ⟨blk,off + i * r.length + j,none⟩).getD .nilFunc) (by rw [hrl];exact hcap)
        (by
         intro row hrow
         obtain ⟨i,hi,rfl⟩:=List.mem_map.1 hrow
         exact Sh.fitsL_len (hF i (by simpa using hi)).1)
        (by
         intro i r' j d h1 h2
         obtain ⟨v,hv,h3,_⟩:=hall i r' j d h1 h2
         rw [hv]
         exact ⟨fun h=>h,rfl,h3⟩)
        (by
         intro i r' j d h1 h2
         obtain ⟨v,hv,_,h4⟩:=hall i r' j d h1 h2
         simp only [hv,Option.getD_some]
         exact h4)
       rw [hrl] at hfin
       rw [hlen] at hfin
       exact hfin
  case h_4 fs ht =>
   obtain ⟨r,hr,h⟩:=Option.bind_eq_some_iff.1 h
   split at h
   case isFalse=>cases h
   case isTrue hc =>
   cases h
   obtain ⟨xs,m,rfl,hx,hl,hxl,hi⟩:=DataW.trod_struct ht hd
   obtain rfl:d=.agg (xs.map (·.1)):=congrArg Prod.fst hx
   obtain ⟨ds,hf,hds⟩:=z873 (fun t sh h cs d ps hd hN=>z223 hb N n t sh h m cs d ps hd hN) fs.toList xs 0 sh hr (by simpa using hxl) (fun i f hf=>hi i f (by simpa using hf))
    (fun x hx=>Nat.le_trans (hb.part _ _ (List.mem_map.2 ⟨x,hx,rfl⟩)) hN)
   exact ⟨by omega,ds,hf,by simpa using hds⟩
  case h_5=>cases h
end
end Go.Ab
/- The z912 from a walked contract to a statement's contract,for a statement of three arguments: Net,Party,Trip;where what is read is of bulk at most the bound. -/
namespace Go.Ab
open Go.RowKit Go.Proofs Go.ChangeShapes Go.Proofs.Ytldnaopmkgikkaa
set_option linter.unusedVariables false
set_option maxRecDepth 100000
section
variable {H:Type} {enc:TypeId × Value→H} {P:Program}
theorem z164 {f:Func} {s:ChangeSpec} {apart fresh handsOn again:Bool} {W W':World} {args:Array Value} {v:Value} {ds gs:List (DataW H)} {before pa pv:List MemPlace}
  (hW:DataW.Whole enc P f.params.toList s.vars apart W args.toList ds gs before)
  (hres:∀ (b:Nat) (sp:Nat→Bool) (hd:Bool),DataW.TrodAll enc P W' b sp hd f.resultTypes.toList (v.resultList f.resultTypes.size) (s.fn H (ds++gs)).results [])
  (hargs:∀ sp:Nat→Bool,(∀ p ∈ before,sp p.block=true)→DataW.TrodAll enc P W' 0 sp true f.params.toList args.toList (s.fn H (ds++gs)).args pa)
  (hvars:∀ sp:Nat→Bool,(∀ p ∈ before,sp p.block=true)→DataW.TrodVars enc P W' sp s.vars (s.fn H (ds++gs)).vars pv)
  (hps:before=pa++pv) (hb:Below W.heap.size W W')
  (hok:∀ (j:Nat) (t:TypeId) (r:Value),f.resultTypes[j]?=some t→(v.resultList f.resultTypes.size)[j]?=some r→Value.okWide P W' .any 0 t r) :
  s.post enc P f apart fresh handsOn again W args v W':=by
 have hlt:=hW.lt
 have hold:∀ p ∈ before,(fun b=>decide (b<W.heap.size)) p.block=true:=fun p hp=>by simpa using hlt p hp
 refine ⟨ds,gs,before,[],pa,pv,hW,hres _ _ _,hargs _ hold,hvars _ hold,World.keptBut_mono (fun p hp=>⟨hp,?_⟩) (hb.frame (· ∈ before)),fun _=>?_⟩
 ·rw [hps,List.mem_append] at hp
  exact Or.inr hp
 ·obtain ⟨_,_,_,_,_,hz,hn⟩:=hW
  refine ⟨hok,_,_,([]++pa)++pv,⟨[]++pa,pv,trodAll_append (hargs _ (fun _ _=>rfl)) (hres _ _ _),hvars _ (fun _ _=>rfl),rfl,?_,?_⟩,?_⟩
  ·intro b off hp
   have hp':MemPlace.cell b off ∈ before:=by rw [hps];simpa using hp
   rw [hb.frozen (p:=⟨b,off,none⟩) (hlt _ hp')]
   exact hz b off hp'
  ·intro ha
   have:=hn ha
   rw [hps] at this
   simpa using this
  ·intro p hp _
   rw [hps]
   simpa using hp
end
theorem z227 {α:Type} {row:α→List DV} {Q:α→Prop}:∀ {rows:List (List DV)},(∀ r ∈ rows,∃ a,r=row a∧Q a)→∃ l:List α,rows=l.map row∧∀ a ∈ l,Q a
 | [],_=>⟨[],rfl,fun _ h=>by cases h⟩
 | r::rs,h=>by
  obtain ⟨a,rfl,ha⟩:=h r (by simp)
  obtain ⟨l,rfl,hl⟩:=z227 (rows:=rs) (fun r hr=>h r (by simp [hr]))
  exact ⟨a::l,rfl,fun b hb=>by rcases List.mem_cons.1 hb with rfl | hb;exact ha;exact hl b hb⟩
def iS:Sh:=.int .i64
def spanS:List Sh:=[iS,iS]
def pathS:List Sh:=[iS,iS,iS,iS,iS,iS,iS,.sl spanS]
def netS:List Sh:=[iS,.sl pathS]
def partyS:List Sh:=[iS,iS,iS,iS]
def tripS:List Sh:=[iS,iS,iS,iS,.sl [iS],iS]
theorem z740 {N:Nat} {r:List DV} (h:Sh.fitsL N spanS r):∃ s:Span,r=s.row∧True:=by
 simp only [spanS,iS,Sh.fitsL,Sh.fits] at h
 obtain ⟨_,_,rfl,⟨a,rfl,_⟩,_,_,rfl,⟨b,rfl,_⟩,rfl⟩:=h
 exact ⟨⟨a,b⟩,rfl,trivial⟩
theorem z853 {N:Nat} {r:List DV} (h:Sh.fitsL N pathS r):∃ x:Path,r=x.row∧x.opens.length≤N:=by
 simp only [pathS,iS,Sh.fitsL,Sh.fits] at h
 obtain ⟨_,_,rfl,⟨a,rfl,_⟩,_,_,rfl,⟨b,rfl,_⟩,_,_,rfl,⟨c,rfl,_⟩,_,_,rfl,⟨d,rfl,_⟩,_,_,rfl,⟨e,rfl,_⟩,_,_,rfl,⟨f,rfl,_⟩,_,_,rfl,⟨g,rfl,_⟩,_,_,rfl,⟨rows,rfl,hl,hr⟩,rfl⟩:=h
 obtain ⟨l,rfl,_⟩:=z227 (fun r h=>z740 (hr r h))
 exact ⟨⟨a,b,c,⟨d,e⟩,⟨f,g⟩,l⟩,rfl,by simpa using hl⟩
theorem z846 {N:Nat} (hN:N<2 ^ 30) {r:List DV} (h:Sh.fitsL N netS r):∃ n:Net,r=n.cells∧n.Small:=by
 simp only [netS,iS,Sh.fitsL,Sh.fits] at h
 obtain ⟨_,_,rfl,⟨a,rfl,_⟩,_,_,rfl,⟨rows,rfl,hl,hr⟩,rfl⟩:=h
 obtain ⟨l,rfl,hq⟩:=z227 (fun r h=>z853 (hr r h))
 refine ⟨⟨a,l⟩,rfl,⟨?_,fun x hx=>?_⟩⟩
 ·have:l.length≤N:=by simpa using hl
  show l.length<2 ^ 30
  omega
 ·have:=hq x hx
  omega
theorem z609 {N:Nat} {r:List DV} (h:Sh.fitsL N partyS r):∃ p:Party,r=p.cells:=by
 simp only [partyS,iS,Sh.fitsL,Sh.fits] at h
 obtain ⟨_,_,rfl,⟨a,rfl,_⟩,_,_,rfl,⟨b,rfl,_⟩,_,_,rfl,⟨c,rfl,_⟩,_,_,rfl,⟨d,rfl,_⟩,rfl⟩:=h
 exact ⟨⟨a,b,⟨c,d⟩⟩,rfl⟩
theorem z880 {N:Nat} {r:List DV} (h:Sh.fitsL N [iS] r):∃ s:Int,r=[.i s]∧True:=by
 simp only [iS,Sh.fitsL,Sh.fits] at h
 obtain ⟨_,_,rfl,⟨a,rfl,_⟩,rfl⟩:=h
 exact ⟨a,rfl,trivial⟩
theorem z723 {N:Nat} {r:List DV} (h:Sh.fitsL N tripS r):∃ x:Trip,r=x.row∧x.route.length≤N:=by
 simp only [tripS] at h
 simp only [iS,Sh.fitsL,Sh.fits] at h
 obtain ⟨_,_,rfl,⟨a,rfl,_⟩,_,_,rfl,⟨b,rfl,_⟩,_,_,rfl,⟨c,rfl,_⟩,_,_,rfl,⟨d,rfl,_⟩,_,_,rfl,⟨rows,rfl,hl,hr⟩,_,_,rfl,⟨e,rfl,_⟩,rfl⟩:=h
 obtain ⟨l,rfl,_⟩:=z227 (row:=fun i:Int=>[DV.i i]) (fun r h=>z880 (N:=N) (by simp only [iS,Sh.fitsL,Sh.fits];exact hr r h))
 exact ⟨⟨a,b,c,d,l,e⟩,rfl,by simpa using hl⟩
theorem z878:shapes Try.prog 20 24=some netS:=by kernel_rfl
theorem z749:shapes Try.prog 20 28=some partyS:=by kernel_rfl
theorem z844:shapes Try.prog 20 31=some tripS:=by kernel_rfl
theorem z368 {H:Type}:∀ {l:List (DataW H)} {d:DataW H},d ∈ l→Rows.uptoBulk d≤Rows.uptoBulkAll l
 | x::r,d,h=>by
  simp only [Rows.uptoBulkAll]
  rcases List.mem_cons.1 h with rfl | h
  ·omega
  ·have:=z368 h
   omega
theorem z837 {H:Type} (d:DataW H):1≤Rows.uptoBulk d:=by
 cases d with
 | lit l=>cases l <;> simp [Rows.uptoBulk]
 | _=>simp [Rows.uptoBulk]
theorem z624 {H:Type}:∀ (l:List (DataW H)),l.length≤Rows.uptoBulkAll l
 | []=>by simp
 | x::r=>by
  have h1:=z837 x
  have h2:=z624 r
  simp only [Rows.uptoBulkAll,List.length_cons]
  omega
theorem z884 {H:Type}:BulkOk (Rows.uptoBulk (H:=H)) where
 slice:=fun elems spare=>by
  have:=z624 elems
  simp only [Rows.uptoBulk]
  omega
 elem:=fun elems spare d hd=>by
  have:=z368 hd
  simp only [Rows.uptoBulk]
  omega
 part:=fun parts d hd=>by
  have:=z368 hd
  simp only [Rows.uptoBulk]
  omega
theorem z109 {H:Type} {enc:TypeId × Value→H} {w:World} {t:TypeId} {sh:List Sh} (hs:shapes Try.prog 20 t=some sh) (h2:2≤sh.length) {v:Value} {d:DataW H} {ps:List MemPlace}
  (h:DataW.Trod enc Try.prog w 0 (fun _=>true) true t v d ps) (hd:Rows.uptoBulk d≤1048576) :
  ∃ ds,Sh.fitsL 1048576 sh ds∧DRel w (fun _=>False) (.agg ds) v:=by
 obtain ⟨fuel,h⟩:=h
 obtain ⟨hl,ds,hf,hr⟩:=z223 z884 1048576 20 t sh hs fuel _ _ _ h hd
 have hdl:=Sh.fitsL_len hf
 refine ⟨ds,hf,?_⟩
 cases v with
 | agg cs =>
  simp only [Value.cells] at hl hr
  exact .agg _ _ (by simpa [hdl] using hl.symm) fun i d v h1 h2=>(hr i d v h1 (by simpa using h2)).2
 | _=>simp [Value.cells] at hl;omega
theorem z912 {f:FuncId} {fn:Func} (hf:∀ (n:Net) (p:Party) (x:Trip),n.Small→x.route.length<2 ^ 30→Fn Try.prog f [.agg n.cells,.agg p.cells,.agg x.row] (.bool true)) (hfn:fn.params=#[24,28,31]) (hr:fn.resultTypes=#[4])
  (s:ChangeSpec) (hv:s.vars=[]) (hs:∀ (H:Type) (a b c:DataW H),s.fn H [a,b,c]={ results:=[.lit (.bool true)],args:=[a,b,c] })
  {H:Type} {enc:TypeId × Value→H} {W:World} {args:Array Value} {ds gs:List (DataW H)} {before:List MemPlace}
  (hW:DataW.Whole enc Try.prog fn.params.toList s.vars false W args.toList ds gs before) (hk:Rows.uptoSmall H (ds++gs)=true) :
  Calls Try.prog f args W fun e W'=>∃ v,e=.returned v∧s.post enc Try.prog fn false true false false W args v W':=by
 have hW':=hW
 obtain ⟨p,q,hA,hV,rfl,hfz,hnd⟩:=hW
 rw [hfn] at hA
 rw [hv] at hV
 obtain ⟨v0,v1,v2,d0,d1,d2,p0,p1,p2,rfl,rfl,rfl,h0,h1,h2⟩:=trodAll_three hA
 obtain ⟨rfl,rfl⟩:=trodVars_none hV
 have hb:=of_decide_eq_true hk
 simp only [List.append_nil,Rows.uptoBulkAll] at hb
 obtain ⟨e0,hf0,r0⟩:=z109 z878 (by decide) h0 (by omega)
 obtain ⟨e1,hf1,r1⟩:=z109 z749 (by decide) h1 (by omega)
 obtain ⟨e2,hf2,r2⟩:=z109 z844 (by decide) h2 (by omega)
 obtain ⟨n,rfl,hsm⟩:=z846 (by decide) hf0
 obtain ⟨pa,rfl⟩:=z609 hf1
 obtain ⟨x,rfl,hxr⟩:=z723 hf2
 have hc:=(hf n pa x hsm (by omega)).2 W (fun _=>False) #[v0,v1,v2] (fun _ h=>h.elim) (Hid.no (by kernel_rfl)) ⟨rfl,by
  intro i d v hd hv
  match i,hd,hv with
  | 0,hd,hv=>simp at hd hv;subst hd;subst hv;exact r0
  | 1,hd,hv=>simp at hd hv;subst hd;subst hv;exact r1
  | 2,hd,hv=>simp at hd hv;subst hd;subst hv;exact r2
  | i + 3,hd,hv=>simp at hd⟩
 refine hc.mono fun e W' h=>?_
 obtain ⟨v,rfl,hrel,hbel⟩:=h
 cases hrel
 refine ⟨_,rfl,?_⟩
 have hlt:∀ y ∈ p0++p1++p2,y.block<W.heap.size:=fun y hy=>hW'.lt y (by simpa using hy)
 have hargs:∀ sp:Nat→Bool,(∀ p ∈ p0++p1++p2,sp p.block=true)→DataW.TrodAll enc Try.prog W' 0 sp true [24,28,31] [v0,v1,v2] [d0,d1,d2] (p0++(p1++p2)):=by
  intro sp hsp
  have st:∀ (t:TypeId) (v:Value) (d:DataW H) (ps:List MemPlace),Try.prog.readableRec t=true→t<Try.prog.types.size→(∀ y ∈ ps,y ∈ p0++p1++p2)→DataW.Trod enc Try.prog W 0 (fun _=>true) true t v d ps→DataW.Trod enc Try.prog W' 0 sp true t v d ps :=
   fun t v d ps hr ht hin h=>WideElems.Trod_stays (by kernel_rfl) hr ht h (fun y hy=>hbel.same (hlt y (hin y hy))) (fun y hy=>hsp y (hin y hy))
  exact trodAll_mk3 (st 24 _ _ _ (by kernel_rfl) (of_decide_eq_true (by kernel_rfl)) (fun y hy=>by simp [hy]) h0) (st 28 _ _ _ (by kernel_rfl) (of_decide_eq_true (by kernel_rfl)) (fun y hy=>by simp [hy]) h1) (st 31 _ _ _ (by kernel_rfl) (of_decide_eq_true (by kernel_rfl)) (fun y hy=>by simp [hy]) h2)
 have hok:Value.okWide Try.prog W' .any 0 4 (.bool true):=okWide_bool_mk (t:=4) Try.underlying4 true
 refine z164 (pa:=p0++(p1++p2)) (pv:=[]) hW' ?_ ?_ ?_ (by simp) hbel ?_
 ·intro b sp hd
  rw [hr,show ([d0,d1,d2]++[]:List (DataW H))=[d0,d1,d2] from rfl,hs]
  exact trodAll_mk1 (shut_bool Try.underlying4 _)
 ·intro sp hsp
  rw [hfn,show ([d0,d1,d2]++[]:List (DataW H))=[d0,d1,d2] from rfl,hs]
  exact hargs sp (fun y hy=>hsp y (by simpa using hy))
 ·intro sp hsp
  rw [hv,show ([d0,d1,d2]++[]:List (DataW H))=[d0,d1,d2] from rfl,hs]
  rfl
 ·exact ok_one hr rfl hok
end Go.Ab
/- Memory of the call's own that is handed over whole;drawn regions whose calls stand in an order. -/
namespace Go.Ab
open Go.RowKit
theorem CallR.own {P:Program} {st:St} {dst:Option Tmp} {g:FuncId} {xs:List AV} {m0:List Blk} {pins:List Nat} {args:List AV} {r:AV} {m1:List Blk} (ns news bads rd:List Nat) (hf:FnG P g m0 pins args r m1)
  (hnd:(ns++news).Nodup) (hl0:ns.length=m0.length) (hl1:(ns++news).length=m1.length) (hm:blksG st ns ns m0) (hnew:news.all st.fresh=true) (hla:xs.length=args.length)
  (ha:∀ (i:Nat) x y,xs[i]?=some x→args[i]?=some y→argG st ns rd x y) (hrd:rd.all (fun n=>!ns.contains n)=true) (hsh:shutG st rd) (hb:(List.range ns.length).all (fun i=>pins.contains i || bads.contains (ns.getD i 0))=true)
  (hfl:rd=[]∨(r.flatA=true∧m1.all Blk.flatB=true)) :
  CallR P st dst g xs (({ (st.keep bads) with m:=putM (ns++news) (m1.map (Blk.mapN fun i=>(ns++news)[i]?)) (st.keep bads).m }:St).put dst (r.mapN fun i=>(ns++news)[i]?)) :=
 CallR.gen m0 pins args r m1 ns news rd bads hf hnd hl0 hl1 (z248 hm).2 (fun n hn=>z26 (List.all_eq_true.1 hnew n hn)) hla ha (fun n hn=>by simpa using List.all_eq_true.1 hrd n hn) hsh
  (fun i n hi hn=>by
   have hil:=(List.getElem?_eq_some_iff.1 hi).1
   have:=List.all_eq_true.1 hb i (List.mem_range.2 hil)
   rw [Bool.or_eq_true] at this
   rcases this with h | h
   ·simpa using h
   ·rw [List.getD,hi] at h
    exact absurd (by simpa using h) hn) hfl
def offM (m:Nat→Bool) (i:Nat):Nat→Bool:=fun j=>if j=i then false else m j
def depsM (m:Nat→Bool):List Edge→Prop
 | []=>True
 | e::es=>(Region.binds .any e=true→m e.on=false)∧depsM m es
def stepsM (P:Program) (G:(Nat→Bool)→St):List Oper→Nat→Prop
 | [],_=>True
 | o::os,i=>(∀ m:Nat→Bool,m i=true→depsM m o.after.toList→dstOk o=true∧o.guard=none∧stepK P o (G m) (fun s=>s=G (offM m i)))∧stepsM P G os (i + 1)
def StepM (P:Program) (G:(Nat→Bool)→St) (o:Oper) (i:Nat):Prop:=∀ m:Nat→Bool,m i=true→depsM m o.after.toList→dstOk o=true∧o.guard=none∧stepK P o (G m) (fun s=>s=G (offM m i))
structure LeftC (ops:Array Oper) (G:(Nat→Bool)→St) (rs:List Nat) (s s':St):Prop where
 now:s=G fun i=>rs.contains i
 fin:s'=G fun _=>false
 nodup:rs.Nodup
 ord:rs.Pairwise fun a b=>¬ Anc ops b a
 size:∀ i ∈ rs,i<ops.size
section
variable {P:Program} {rd:Option Nat} {n:Nat} {J:Env} {ops:Array Oper} {cs:List Code} {k:Option Nat} {st:St} {Q:Exit→Option Nat→St→Prop}
end
attribute [go_sem] offM
end Go.Ab
/- A fresh slice is a deep value too. -/
namespace Go.Ab
open Go.RowKit
theorem FnS.deep {P:Program} {f:FuncId} {args:List DV} {e z:Nat} {rows:List (List DV)} (h:FnS P f args e z rows):Fn P f args (.sl rows) :=
 ⟨h.1,fun w own vs hb hh hd=>(h.2 w own vs hb hh hd).mono fun en w' hq=>by
  obtain ⟨v,μ,he,hv,hm,hbl⟩:=hq
  exact ⟨v,he,z46 hm own (fun b hb=>.inl hb) (fun _=>True) (fun n b z l c _ hμ=>(hm.base n b z l c hμ).2.2) 1 (.own 0) v _ hv rfl (fun _ _=>trivial) (.inl fun _ _ _ _ _ _=>trivial),hbl⟩⟩
def closedM (m:Nat→Bool):List Oper→Nat→Prop
 | [],_=>True
 | o::os,i=>(m i=false→depsM m o.after.toList)∧closedM m os (i + 1)
def stepsC (P:Program) (all:List Oper) (G:(Nat→Bool)→St):List Oper→Nat→Prop
 | [],_=>True
 | o::os,i=>(∀ m:Nat→Bool,m i=true→depsM m o.after.toList→closedM m all 0→dstOk o=true∧o.guard=none∧stepK P o (G m) (fun s=>s=G (offM m i)))∧stepsC P all G os (i + 1)
def StepC (P:Program) (all:List Oper) (G:(Nat→Bool)→St) (o:Oper) (i:Nat):Prop:=∀ m:Nat→Bool,m i=true→depsM m o.after.toList→closedM m all 0→dstOk o=true∧o.guard=none∧stepK P o (G m) (fun s=>s=G (offM m i))
structure LeftD (ops:Array Oper) (G:(Nat→Bool)→St) (rs:List Nat) (s s':St):Prop where
 left:LeftC ops G rs s s'
 done:∀ (j:Nat) (o:Oper),ops[j]?=some o→j ∉ rs→∀ e ∈ o.after,Region.binds .any e=true→e.on ∉ rs
section
variable {P:Program} {rd:Option Nat} {n:Nat} {J:Env} {ops:Array Oper} {cs:List Code} {k:Option Nat} {st:St} {Q:Exit→Option Nat→St→Prop}
end
end Go.Ab
/- Iterators of a second kind: they may keep memory of their own between two elements,and hand on elements from within calls. -/
namespace Go.Ab
open Go.RowKit
def Firm (J:Env) (k:Option Nat) (b o:Own) (w:World):Prop:=∀ w',BelowU b w w'→J k b o w'
theorem Firm.next {J:Env} {k:Option Nat} {b o:Own} {w w':World} (h:Firm J k b o w) (hb:BelowU b w w'):Firm J k b o w':=fun w2 h2=>h w2 (hb.trans h2)
def GivesE (P:Program) (l:Nat) (J:Env) (items:List (List DV)):Prop :=
 ∀ (m kk:Nat) (b o X:Own) (w:World) (vals:Array Value) (row:List DV),items[kk]?=some row→(∀ x,o x→b x)→(∀ x,b x→x<w.heap.size)→Firm J (some kk) b o w →
  (∀ x,X x→¬ b x∧x<w.heap.size)→DRels w (fun x=>o x∨X x) row vals →
  YieldAt (fence none) m P l vals w fun e w'=>∃ t b' o',e=.returned (.bool t)∧(∀ x,o' x→b' x)∧(∀ x,b' x→x<w'.heap.size)∧Firm J (if t then some (kk + 1) else none) b' o' w' ∧
   Stays w o w' o'∧∀ x,X x→¬ b' x
section
variable {P:Program} {base:Own} {out:Own} {st st':St} {μ:Pl} {tmps:Array Value} {w w':World} {o:Oper} {ops:Array Oper} {rd:Option Nat} {n:Nat} {J:Env} {k:Option Nat}
theorem StRel.next (h:StRel P base out st μ tmps w) (hs:w.heap.size≤w'.heap.size) (hk:∀ x,x<w.heap.size→¬ out x→w'.heap[x]?=w.heap[x]?) {b2 o2:Own}
  (ho2:∀ x,o2 x→b2 x) (hb2:∀ x,b2 x→x<w'.heap.size) (hon:∀ x,o2 x→out x∨w.heap.size≤x) (hbn:∀ x,μ.owns x→¬ b2 x):StRel P b2 o2 st μ tmps w':=by
 have hg:Goes w (ownOf out μ) w' (ownOf o2 μ):=fun b o v h1 h2=>by
  have hlt:=z52 h2
  refine ⟨fun hc=>?_,?_⟩
  ·rcases hc with hc | hc
   ·rcases hon b hc with h3 | h3
    ·exact h1 (.inl h3)
    ·omega
   ·exact h1 (.inr hc)
  ·simp only [World.cell?] at h2 ⊢
   rw [hk b hlt (fun hc=>h1 (.inl hc))];exact h2
 refine ⟨h.size,fun i x v h1 h2=>(h.tmp i x v h1 h2).goes hg (fun _ _ _=>rfl),⟨fun m blk hm=>(h.mem.blk m blk hm).goes hg rfl (fun _ _=>rfl) (fun b z l c hb=>?_),h.mem.dom,h.mem.inj,fun m b z l c hb=>?_⟩,h.hid.goes hg,ho2,hb2⟩
 ·have:=h.mem.base m b z l c hb
  exact hk b this.2.1 this.2.2
 ·have:=h.mem.base m b z l c hb
  have hn:=hbn b ⟨m,z,l,c,hb⟩
  exact ⟨hn,Nat.lt_of_lt_of_le this.2.1 hs,fun hc=>hn (ho2 b hc)⟩
def yieldKE (l l':Nat) (items:List (List DV)) (xs:List AV) (dst:Option Tmp) (k:Option Nat) (s:St) (K:Option Nat→St→Prop):Prop :=
 l'=l∧∃ kk row,k=some kk∧reifyAll s xs=some row∧s.arrs (AV.refsAll xs)=true∧items[kk]?=some row ∧
  K (some (kk + 1)) ((releaseAll (AV.refsAll xs) s).put dst (.d (.bool true)))∧K none ((releaseAll (AV.refsAll xs) s).put dst (.d (.bool false)))
def lendJ (X:Own) (W:World) (J:Env):Env:=fun k b o w=>(∀ x,X x→o x)∧(∀ x,X x→w.heap[x]?=W.heap[x]?)∧(∀ x,o x→b x)∧(∀ x,b x→x<w.heap.size)∧Firm J k (fun x=>b x∧¬ X x) (fun x=>o x∧¬ X x) w
def YFn (P:Program) (f:FuncId) (l:Nat) (m0:List Blk) (args:List AV) (items:List (List DV)):Prop:=Enters P f ∧
 ∀ (J:Env) (ITEMS:List (List DV)) (k0:Nat) (w:World) (b own:Own) (μ0:Pl) (vs:Array Value),EnvOk w.heap.size J→GivesE P l J ITEMS→(∀ (i:Nat) row,items[i]?=some row→ITEMS[k0 + i]?=some row) →
  (∀ x,own x→b x)→(∀ x,b x→x<w.heap.size)→MemRel b own w μ0 (m0.map some)→Hid P w (ownOf own μ0)→args.length=vs.size →
  (∀ (i:Nat) x v,args[i]?=some x→vs[i]?=some v→AVRel w (ownOf own μ0) μ0 x v)→Firm J (some k0) b own w →
  Calls P f vs w fun e w'=>∃ t b' o' μ1,e=.returned (.bool t)∧(∀ x,o' x→b' x)∧(∀ x,b' x→x<w'.heap.size)∧MemRel b' o' w' μ1 (m0.map some)∧Firm J (if t then some (k0 + items.length) else none) b' o' w' ∧
   Stays w (ownOf own μ0) w' (ownOf o' μ1)∧∀ i,i<m0.length→μ1 i=μ0 i
def isArr:Blk→Bool
 | .arr .. | .arrP ..=>true
 | _=>false
def handed (st:St):List Nat→Option (List Blk)
 | []=>some []
 | n::ns=>match (st.m[n]?:Option (Option Blk)),handed st ns with
  | some (some b),some l=>if isArr b then some (b::l) else none
  | _,_=>none
def callYK (P:Program) (l:Nat) (items:List (List DV)) (o:Oper) (k:Option Nat) (s:St) (K:Option Nat→St→Prop):Prop :=
 ∃ kk,k=some kk∧bindK (callOf o s) fun gx=>∃ (ns:List Nat) (m0:List Blk) (its:List (List DV)),ns.Nodup∧handed s ns=some m0∧YFn P gx.1 l m0 (gx.2.map (AV.mapN (inv ns))) its ∧
  (∀ (i:Nat) row,its[i]?=some row→items[kk + i]?=some row)∧K (some (kk + its.length)) (s.put o.dst (.d (.bool true)))∧K none (s.put o.dst (.d (.bool false)))
end
end Go.Ab
/- Regions that hand on elements;drawn regions that do so at their end;contracts of functions that hand on elements. -/
namespace Go.Ab
open Go.RowKit
def ysB (ys:List Nat) (dst:Option Tmp):Bool:=match dst with
 | some d=>ys.contains d
 | none=>false
theorem z789 (ys:List Nat) (d:Tmp):ysB ys (some d)=ys.contains d:=rfl
theorem z790 (ys:List Nat):ysB ys none=false:=rfl
def stepE (P:Program) (l:Nat) (items:List (List DV)) (ys:List Nat) (o:Oper) (k:Option Nat) (s:St) (K:Option Nat→St→Prop):Prop:=match yieldOf o s with
 | some lx=>yieldKE l lx.1 items lx.2 o.dst k s K
 | none=>match ysB ys o.dst with
  | true=>callYK P l items o k s K
  | false=>stepK P o s (K k)
def guardedEY (P:Program) (l:Nat) (items:List (List DV)) (ys:List Nat) (t:AV) (want:Bool) (o:Oper) (k:Option Nat) (s:St) (K:Option Nat→St→Prop):Prop:=guardK t want (stepE P l items ys o k s K) (K k (s.put o.dst .void))
def guardRunEY (P:Program) (l:Nat) (items:List (List DV)) (ys:List Nat) (t:AV) (want:Bool) (o:Oper) (k:Option Nat) (s:St) (R:Option Nat→St→Prop):Prop:=∀ K':Option Nat→St→Prop,(∀ k s,R k s→K' k s)→guardedEY P l items ys t want o k s K'
def runE (P:Program) (l:Nat) (items:List (List DV)) (ys:List Nat) (ops:Array Oper):List Oper→Option Nat→St→(Option Nat→St→Prop)→Prop
 | [],k,s,K=>K k s
 | o::os,k,s,K=>dstOk o=true∧match guardT ops o with
  | none=>False
  | some none=>stepE P l items ys o k s fun k s=>runE P l items ys ops os k s K
  | some (some (t,want))=>guardRunEY P l items ys (s.ev (.tmp t)) want o k s fun k s=>runE P l items ys ops os k s K
section
variable {P:Program} {base:Own} {out:Own} {st st':St} {μ:Pl} {tmps:Array Value} {w w':World} {o:Oper} {ops:Array Oper} {rd:Option Nat} {n:Nat} {J:Env}
def ancAll (mk:List Nat) (j:Nat):Nat→Bool
 | 0=>true
 | i + 1=>(mk.getD j 0).testBit i && ancAll mk j i
def tailB (ops:Array Oper) (p:Nat):Bool:=(List.range ops.size).all fun j=>decide (j<p) || ancAll (masks ops.toList []) j j
end
end Go.Ab
/- Contracts of iterators of the second kind,and of functions that hand on elements;the range over such an iterator. -/
namespace Go.Ab
open Go.RowKit
section
variable {P:Program} {base:Own} {out:Own} {st st':St} {μ:Pl} {tmps:Array Value} {w w':World} {J:Env} {k:Option Nat} {B:Nat}
def IterE (P:Program) (f:FuncId) (m0:List Blk) (args:Nat→List AV) (items:List (List DV)):Prop:=Enters P f ∧
 ∀ (l:Nat) (J:Env) (w:World) (b own:Own) (μ0:Pl) (vs:Array Value),EnvOk w.heap.size J→GivesE P l J items→(∀ x,own x→b x)→(∀ x,b x→x<w.heap.size)→MemRel b own w μ0 (m0.map some)→Hid P w (ownOf own μ0)→(args l).length=vs.size →
  (∀ (i:Nat) x v,(args l)[i]?=some x→vs[i]?=some v→AVRel w (ownOf own μ0) μ0 x v)→Firm J (some 0) b own w →
  Calls P f vs w fun e w'=>∃ v b' o',e=.returned v∧(∀ x,o' x→b' x)∧(∀ x,b' x→x<w'.heap.size)∧(Firm J (some items.length) b' o' w'∨Firm J none b' o' w')
def nameV:AV→Option Nat
 | .vh n _ | .vc n _=>some n
 | _=>none
def pinsY (m0:List Blk) (args:List AV) (M:Nat) (s:St):List Nat→Nat→Prop
 | [],_=>True
 | p::ps,i=>(match args[p]?,(s.t[p]?:Option AV),m0[i]?,(s.m[M + i]?:Option (Option Blk)) with
  | some x,some y,some (.arrP e z rows),some (some (.arrP e' z' rows'))=>nameV x=some i∧nameV y=some (M + i)∧e=e'∧z=z'∧rows=rows'
  | _,_,_,_=>False)∧pinsY m0 args M s ps (i + 1)
def retY (P:Program) (rs:Array ResultVar) (m0:List Blk) (args:List AV) (M:Nat) (ps:List Nat) (items:List (List DV)) (ex:Exit) (k:Option Nat) (s:St):Prop :=
 endsOk ex∧bindK (resultsA P s rs) fun x=>match x with
  | .d (.bool t)=>(k=if t then some items.length else none)∧pinsY m0 args M s ps 0
  | _=>False
end
end Go.Ab
/- A range over an iterator of the second kind. -/
namespace Go.Ab
open Go.RowKit
def rangeOf (st:St) (g:Operand):Option (FuncId × List AV × List AV):=match st.ev g with
 | .d (.fn f caps)=>some (f,[],caps.map .d)
 | .fn f caps=>some (f,[],caps)
 | .d (.bnd f first)=>some (f,first.map .d,[])
 | _=>none
def ceded (st:St) (all:List Nat):List Nat→Option (List Blk)
 | []=>some []
 | n::ns=>match (st.m[n]?:Option (Option Blk)),ceded st all ns with
  | some (some b),some l=>some (b.mapN (inv all)::l)
  | _,_=>none
def cedeM (ns:List Nat):List (Option Blk)→Nat→List (Option Blk)
 | [],_=>[]
 | b::l,i=>(if ns.contains i then none else b.map (Blk.mapN (kp ns)))::cedeM ns l (i + 1)
def St.cede (ns:List Nat) (st:St):St:=match ns with
 | []=>st
 | ns=>{ t:=st.t.map (AV.mapN (kp ns)),m:=cedeM ns st.m 0 }
section
variable {P:Program} {base:Own} {out:Own} {st st':St} {μ:Pl} {tmps:Array Value} {w w':World} {J:Env} {k:Option Nat} {B:Nat}
def ownsOf (μ:Pl) (ns:List Nat):Own:=fun b=>∃ n z l c,n ∈ ns∧μ n=some (.at b z l c)
end
end Go.Ab
/- More on functions that hand on elements: drawn regions told by what is still to come,arrays handed down with their room,functions that name themselves;the simp set. -/
namespace Go.Ab
open Go.RowKit
def viaVh (len:Nat):AV→AV
 | .own n=>.vh n len
 | .vh n l=>.vh n l
 | _=>.undef
def St.asVh (n:Nat) (st:St):St:=match (st.m[n]?:Option (Option Blk)) with
 | some (some (.arr e z rows))=>{ t:=st.t.map (AV.sub n (viaVh rows.length)),m:=(subMem n (viaVh rows.length) st.m).set n (some (.arrP e z rows)) }
 | _=>st
def St.fewer (n k:Nat) (st:St):St:=match (st.m[n]?:Option (Option Blk)) with
 | some (some (.arrP e z rows))=>{ t:=st.t,m:=st.m.set n (some (.arrP e z (rows.take k))) }
 | _=>st
def vcOf (len:Nat):AV→AV
 | .vh n l=>if l=len then .vc n l else .undef
 | .vc n l=>.vc n l
 | _=>.undef
def St.vRoom (n:Nat) (st:St):St:=match (st.m[n]?:Option (Option Blk)) with
 | some (some (.arrP e z rows))=>{ t:=st.t.map (AV.sub n (vcOf rows.length)),m:=(subMem n (vcOf rows.length) st.m).set n (some (.arrP e z rows)) }
 | _=>st
def St.vFull (n:Nat) (st:St):St:=match (st.m[n]?:Option (Option Blk)) with
 | some (some (.arrP e z rows))=>{ t:=st.t,m:=st.m.set n (some (.arr e z rows)) }
 | _=>st
section
variable {P:Program} {base:Own} {out:Own} {st st':St} {μ:Pl} {tmps:Array Value} {w w':World} {J:Env} {k:Option Nat} {B:Nat}
def cycD (f:FuncId) (caps:List (Option DV)):Nat→DV
 | 0=>.any
 | i + 1=>.ptr [.fn f (caps.map fun c=>c.getD (cycD f caps i))] 0
def cycCaps (n:Nat):List AV→Option (List (Option DV))
 | []=>some []
 | .d d::l=>(cycCaps n l).map (some d::·)
 | .box k o::l=>if k=n∧o=0 then (cycCaps n l).map (none::·) else none
 | _::_=>none
def cycLeaf (d:DV):AV→AV
 | .box _ 0=>.d d
 | _=>.undef
def St.cyc (n depth:Nat) (st:St):St:=match (st.m[n]?:Option (Option Blk)) with
 | some (some (.box [.fn f xs]))=>match cycCaps n xs with
  | some caps=>{ t:=st.t.map (AV.sub n (cycLeaf (cycD f caps depth))),m:=subMem n (cycLeaf (cycD f caps depth)) (st.m.set n none) }
  | none=>st
 | _=>st
end
theorem z597 {P:Program} {l:Nat} {items:List (List DV)} {o:Oper} {k:Option Nat} {s:St} {K K':Option Nat→St→Prop} (h:callYK P l items o k s K) (hK:∀ k s,K k s→K' k s):callYK P l items o k s K':=by
 obtain ⟨kk,h1,gx,h2,ns,m0,its,a1,a2,a3,a4,a5,a6⟩:=h
 exact ⟨kk,h1,gx,h2,ns,m0,its,a1,a2,a3,a4,hK _ _ a5,hK _ _ a6⟩
theorem z296 {P:Program} {l:Nat} {items:List (List DV)} {ys:List Nat} {o:Oper} {k:Option Nat} {s:St} {K K':Option Nat→St→Prop} (h:stepE P l items ys o k s K) (hK:∀ k s,K k s→K' k s):stepE P l items ys o k s K':=by
 unfold stepE at h ⊢
 split
 ·rename_i hy
  rw [hy] at h
  obtain ⟨h1,kk,row,h2,h3,h4,h5,h6,h7⟩:=h
  exact ⟨h1,kk,row,h2,h3,h4,h5,hK _ _ h6,hK _ _ h7⟩
 ·rename_i hy
  rw [hy] at h
  dsimp only at h ⊢
  split at h
  ·exact z597 h hK
  ·exact z186 h fun s=>hK k s
theorem z362 (P:Program) (l:Nat) (items:List (List DV)) (ys:List Nat) (o:Oper) (k:Option Nat) (s:St) (R:Option Nat→St→Prop):guardRunEY P l items ys (.d (.bool true)) true o k s R=stepE P l items ys o k s R:=by
 apply propext
 exact ⟨fun h=>(h R (fun _ _ h=>h)).1 rfl,fun h K' hK=>⟨fun _=>z296 h hK,fun e=>(by cases e)⟩⟩
theorem z365 (P:Program) (l:Nat) (items:List (List DV)) (ys:List Nat) (o:Oper) (k:Option Nat) (s:St) (R:Option Nat→St→Prop):guardRunEY P l items ys (.d (.bool false)) false o k s R=stepE P l items ys o k s R:=by
 apply propext
 exact ⟨fun h=>(h R (fun _ _ h=>h)).1 rfl,fun h K' hK=>⟨fun _=>z296 h hK,fun e=>(by cases e)⟩⟩
theorem z363 (P:Program) (l:Nat) (items:List (List DV)) (ys:List Nat) (o:Oper) (k:Option Nat) (s:St) (R:Option Nat→St→Prop):guardRunEY P l items ys (.d (.bool true)) false o k s R=R k (s.put o.dst .void):=by
 apply propext
 exact ⟨fun h=>(h R (fun _ _ h=>h)).2 rfl,fun h K' hK=>⟨fun e=>(by cases e),fun _=>hK _ _ h⟩⟩
theorem z364 (P:Program) (l:Nat) (items:List (List DV)) (ys:List Nat) (o:Oper) (k:Option Nat) (s:St) (R:Option Nat→St→Prop):guardRunEY P l items ys (.d (.bool false)) true o k s R=R k (s.put o.dst .void):=by
 apply propext
 exact ⟨fun h=>(h R (fun _ _ h=>h)).2 rfl,fun h K' hK=>⟨fun e=>(by cases e),fun _=>hK _ _ h⟩⟩
theorem z241 (P:Program) (l:Nat) (items:List (List DV)) (ys:List Nat) (want:Bool) (o:Oper) (k:Option Nat) (s:St) (R:Option Nat→St→Prop):guardRunEY P l items ys .void want o k s R=R k (s.put o.dst .void):=by
 apply propext
 exact ⟨fun h=>h R (fun _ _ h=>h),fun h K' hK=>hK _ _ h⟩
theorem z803 (P:Program) (l:Nat) (items:List (List DV)) (ys:List Nat) (ops:Array Oper) (k:Option Nat) (s:St) (K:Option Nat→St→Prop):runE P l items ys ops [] k s K=K k s:=rfl
theorem z743 (P:Program) (l:Nat) (items:List (List DV)) (ys:List Nat) (ops:Array Oper) (o:Oper) (os:List Oper) (k:Option Nat) (x:AV) (t:List AV) (m:List (Option Blk)) (K:Option Nat→St→Prop):runE P l items ys ops (o::os) k ⟨x::t,m⟩ K=(dstOk o=true∧match guardT ops o with
  | none=>False
  | some none=>stepE P l items ys o k ⟨x::t,m⟩ fun k s=>runE P l items ys ops os k s K
  | some (some (t',want))=>guardRunEY P l items ys ((⟨x::t,m⟩:St).ev (.tmp t')) want o k ⟨x::t,m⟩ fun k s=>runE P l items ys ops os k s K):=rfl
attribute [go_sem] stepE yieldOf z362 z365 z363 z364 z241 z803 z743 z789 z790 rangeOf St.cede cedeM retY pinsY nameV viaVh St.asVh St.fewer vcOf St.vRoom St.vFull St.cyc cycCaps cycLeaf opSliceA opCopyA opCopyB List.take_succ_cons List.take_zero List.take_nil List.drop_succ_cons List.drop_zero List.drop_nil
end Go.Ab
/- Another name for a block;drawn regions of which what is told is what differs. -/
namespace Go.Ab
open Go.RowKit
def St.rename (a b:Nat) (st:St):St:=match (st.m[a]?:Option (Option Blk)),(st.m[b]?:Option (Option Blk)) with
 | some (some x),some none=>{ t:=st.t.map (AV.mapN (mv a b)),m:=(((st.m.map (Option.map (Blk.mapN (mv a b)))).set a none).set b (some (x.mapN (mv a b)))) }
 | _,_=>st
section
variable {P:Program} {base:Own} {out:Own} {st st':St} {μ:Pl} {tmps:Array Value} {w w':World}
end
attribute [go_sem] St.rename
theorem z635 {P:Program} {rd:Option Nat} {n:Nat} {J:Env} {c:Code} {cs:List Code} {k:Option Nat} {st:St} {Q:Exit→Option Nat→St→Prop} (ds:List Nat) (ts:List (Nat × AV)) (ms:List (Nat × Option Blk)) (hw:Weak st (st.head ds ts ms)) (h:WalkL P rd n J (c::cs) k (st.head ds ts ms) Q) :
  WalkL P rd n J (c::cs) k st Q:=z53 hw h
inductive SeqW (P:Program) (ops:Array Oper):List Oper→St→St→Prop where
 | nil (s:St):SeqW P ops [] s s
 | cons {o:Oper} {os:List Oper} {s s1 s':St} (hd:dstOk o=true) (h:StepG P ops o s s1) (ht:SeqW P ops os s1 s'):SeqW P ops (o::os) s s'
 | weak {os:List Oper} {s s1 s':St} (hw:Weak s s1) (ht:SeqW P ops os s1 s'):SeqW P ops os s s'
theorem SeqW.of {P:Program} {ops:Array Oper} {os:List Oper} {s s':St} (h:Seq P ops os s s'):SeqW P ops os s s':=by
 induction h with
 | nil s=>exact .nil s
 | cons hd h _ ih=>exact .cons hd h ih
theorem SeqW.append {P:Program} {ops:Array Oper} {os os2:List Oper} {s s1 s2:St} (h:SeqW P ops os s s1) (h2:SeqW P ops os2 s1 s2):SeqW P ops (os++os2) s s2:=by
 induction h with
 | nil s=>exact h2
 | cons hd h _ ih=>exact .cons hd h (ih h2)
 | weak hw _ ih=>exact .weak hw (ih h2)
section
variable {P:Program} {base:Own} {out:Own} {st st':St} {ops:Array Oper} {rd:Option Nat} {n:Nat} {Q:Exit→Act→World→Prop}
end
end Go.Ab
/- What a function makes of its own,told as a deep value. -/
namespace Go.Ab
open Go.RowKit
theorem FnG.deep {P:Program} {f:FuncId} {args:List DV} {r:AV} {m1:List Blk} {d:DV} (h:FnG P f [] [] (args.map AV.d) r m1) (hr:reify (m1.map some) Ab.deep r=some d):Fn P f args d :=
 ⟨h.enters,fun w own vs hb hh hd=>(h.calls (ltU w.heap.size) w own (fun _=>none) vs hb (fun _ h=>h)
   ⟨fun n b h=>by simp at h,fun n h=>by simp at h,fun n k b z l c z' l' c' h=>by simp at h,fun n b z l c h=>by simp at h⟩
   (hh.less fun b hb=>hb.elim id fun ⟨_,_,_,_,h⟩=>by simp at h) (by simpa using hd.1) (fun i x v hx hv=>by
    simp only [List.getElem?_map,Option.map_eq_some_iff] at hx
    obtain ⟨y,hy,rfl⟩:=hx
    refine .d ((hd.2 i y v hy hv).goes fun b o u h1 h2=>⟨fun hc=>h1 (hc.elim id fun ⟨_,_,_,_,h⟩=>by simp at h),h2⟩))).mono fun en w' hq=>by
  obtain ⟨v,μ1,he,hv,hm,hk,_⟩:=hq
  exact ⟨v,he,z46 hm own (fun b hb=>.inl hb) (fun _=>True) (fun n b z l c _ hμ=>(hm.base n b z l c hμ).2.2) Ab.deep r v d hv hr (fun _ _=>trivial) (.inl fun _ _ _ _ _ _=>trivial),hk.keep.below.to⟩⟩
end Go.Ab
/- Arrays whose cells name memory of the call's own: slice literals that keep the names,appends of such arrays. -/
namespace Go.Ab
open Go.RowKit
def rowsA (z:Nat):List AV→Option (List (List AV))
 | []=>some []
 | x::xs=>match x.cells,rowsA z xs with
  | some cs,some rs=>if cs.length=z then some (cs::rs) else none
  | _,_=>none
def opBuildSliceA (P:Program) (t:TypeId) (len:Nat) (parts:List (Nat × AV)):Option Blk:=match tslice P t with
 | some e=>match tsz P e with
  | some z=>if parts.map (·.1)=List.range len∧len≤2 ^ 24∧len * z≤2 ^ 24∧(len * z=0∨((tzero P e).map (·.cells.size))=some z) then
    (rowsA z (parts.map (·.2))).map (.arrA e z)
   else none
  | none=>none
 | none=>none
def headA (z:Nat):List (List AV)→Bool
 | []=>false
 | r::_=>r.length == z
def killN (n:Nat) (rows:List (List AV)):List (List AV):=rows.map fun r=>r.map (AV.sub n fun _=>.undef)
def opAppendA (P:Program) (st:St) (dst:Option Tmp) (t t':TypeId) (s x:AV):Option St:=if t'=t then match dst,tslice P t,x with
 | some d,some e,.own m=>match tsz P e,tbytes P e,(tzero P e).map (·.cells.size),st.m[m]? with
  | some z,some by_,some zl,some (some (.arrA _ _ xs))=>if zl=z∧0<z∧0<by_∧by_≤2 ^ 7∧headA z xs=true then (match s with
    | .nil=>match st.fresh d with
     | true=>if xs.length≤2 ^ 39 then some (st.addBlk d (.own d) (.arrA e z xs)) else none
     | _=>none
    | .own n=>match st.m[n]? with
     | some (some (.arrA e' z' rows))=>if e'=e∧z'=z∧rows.length + xs.length≤2 ^ 39 then
       some ({ (st.kill n) with m:=(st.kill n).m.set n (some (.arrA e z (killN n (rows++xs)))) }.put dst (.own n))
      else none
     | _=>none
    | _=>none) else none
  | _,_,_,_=>none
 | _,_,_=>none else none
section
variable {P:Program} {base:Own} {out:Own} {st st':St} {μ:Pl} {tmps:Array Value} {w:World} {o:Oper}
theorem z297 {z:Nat}:∀ {xs:List AV} {rows:List (List AV)},rowsA z xs=some rows→xs.length=rows.length∧∀ (i:Nat) r,rows[i]?=some r→r.length=z∧∃ x,xs[i]?=some x∧x.cells=some r
 | [],rows,h=>by simp [rowsA] at h;subst h;simp
 | x::xs,rows,h=>by
  simp only [rowsA] at h
  split at h
  ·rename_i r rs h1 h2
   split at h
   ·rename_i hz
    cases h
    obtain ⟨h3,h4⟩:=z297 h2
    refine ⟨by simp [h3],fun i r' hi=>?_⟩
    cases i with
    | zero =>
     simp at hi
     subst hi
     exact ⟨hz,x,by simp,h1⟩
    | succ i=>simpa using h4 i r' (by simpa using hi)
   ·cases h
  ·cases h
theorem z629 (h1:StRel P base out st μ tmps w) {d:Nat} (hd:st.m[d]?=some none) {e z:Nat} {rows:List (List AV)} {cs:Array Value} {cap:Nat} {w':World}
  (hw:∃ w0,Below w.heap.size w w0∧w0.heap=w.heap∧w'=w0.alloc (.cells cs e)) (hle:rows.length≤cap) (hcm:cap≤maxLen) (hsz:cs.size=cap * z) (hz:∀ r ∈ rows,r.length=z)
  (hc:∀ (i:Nat) r (j:Nat) x,rows[i]?=some r→r[j]?=some x→∃ v,cs[i * z + j]?=some v∧v.oneCell'=true∧AVRel w (ownOf out μ) μ x v) :
  ∃ μ',StRel P base out (st.addBlk d (.own d) (.arrA e z rows)) μ' (tmps.setIfInBounds d (.slice (some ⟨w.heap.size,0,none⟩) rows.length cap)) w'∧KeepO base (ownOf out μ) w (ownOf out μ') w':=by
 obtain ⟨w0,hB0,hh0,rfl⟩:=hw
 have hsz0:w0.heap.size=w.heap.size:=by rw [hh0]
 have hB:Below w.heap.size w (w0.alloc (.cells cs e)):=hB0.alloc (by omega) _
 have hnp:=z87 h1.mem hd
 have hg:Goes w (ownOf out μ) (w0.alloc (.cells cs e)) (ownOf out (μ.upd d (some (.at w.heap.size z rows.length cap)))):=fun b o v hb hc=>by
  have hlt:=z52 hc
  refine ⟨?_,(z63 (ownOf out μ) hB b o v hb hc).2⟩
  rintro (h2 | ⟨n,z,l,c,h2⟩)
  ·exact hb (.inl h2)
  ·by_cases hn:n=d
   ·subst hn;rw [Pl.upd_same] at h2;cases h2;omega
   ·rw [Pl.upd_ne μ _ hn] at h2;exact hb (.inr ⟨n,z,l,c,h2⟩)
 refine ⟨_,h1.add hB hd (.at w.heap.size z rows.length cap) (fun b z l c e=>by cases e;simp;omega) ?_ (.own (Pl.upd_same μ d _)),h1.keep_add hB hd _ (fun b z l c e=>by cases e;simp;omega)⟩
 refine .inr ⟨w.heap.size,cap,cs,Pl.upd_same μ d _,by rw [← hsz0];exact heap_alloc_new w0 _,hle,hcm,hsz,hz,fun i r j x hi hj=>?_⟩
 obtain ⟨v,p1,p2,p3⟩:=hc i r j x hi hj
 exact ⟨v,p1,p2,p3.goes hg fun n _ hn=>Pl.upd_ne μ _ (fun e=>by subst e;rw [hnp] at hn;cases hn)⟩
theorem z283 (h:StRel P base out st μ tmps w) {t:TypeId} {len:Nat} {parts:Array (Nat × Operand)} (ho:o.op=.buildSlice t len parts) {d:Nat} (hd:o.dst=some d) (hf:st.fresh d=true) {b:Blk}
  (hs:opBuildSliceA P t len (parts.toList.map fun p=>(p.1,st.ev p.2))=some b):OpOK P base out μ o (st.addBlk d (.own d) b) tmps w:=by
 unfold opBuildSliceA at hs
 split at hs
 rotate_left
 ·cases hs
 rename_i e ht
 split at hs
 rotate_left
 ·cases hs
 rename_i z hz
 split at hs
 rotate_left
 ·cases hs
 rename_i hcond
 obtain ⟨hidx,hlim0,hlim,hzero⟩:=hcond
 rw [Option.map_eq_some_iff] at hs
 obtain ⟨rows,hrows,rfl⟩:=hs
 have hidx':parts.toList.map (·.1)=List.range len:=by simpa [List.map_map,Function.comp_def] using hidx
 have hrows':rowsA z (parts.toList.map fun p=>st.ev p.2)=some rows:=by simpa [List.map_map,Function.comp_def] using hrows
 have hlen:parts.size=len:=by have:=congrArg List.length hidx';simpa using this
 obtain ⟨hrl,hrs⟩:=z297 hrows'
 have hrlen:rows.length=len:=by rw [← hrl];simpa using hlen
 have hval:∀ (j:Nat) a v,(parts.toList.map fun p=>(p.1,val tmps p.2))[j]?=some (a,v)→a=0 + j∧v.cells.size=z∧∃ x,(parts.toList.map fun p=>st.ev p.2)[j]?=some x∧AVRel w (ownOf out μ) μ x v:=by
  intro j a v hj
  simp only [List.getElem?_map,Option.map_eq_some_iff,Prod.mk.injEq] at hj
  obtain ⟨p,hp,rfl,rfl⟩:=hj
  have hjl:j<len:=by rw [← hlen];have:=(List.getElem?_eq_some_iff.1 hp).1;simpa using this
  have h2:=congrArg (fun l:List Nat=>l[j]?) hidx'
  simp only [List.getElem?_map,hp,Option.map_some,List.getElem?_range hjl,Option.some.injEq] at h2
  have hjr:j<rows.length:=by omega
  obtain ⟨hr1,x,hx,hcs⟩:=hrs j rows[j] (by simp [hjr])
  simp only [List.getElem?_map,hp,Option.map_some,Option.some.injEq] at hx
  subst hx
  have hev:=h.ev p.2 []
  obtain ⟨c1,_,_⟩:=z31 hev hcs
  refine ⟨by omega,?_,_,by simp only [List.getElem?_map,hp,Option.map_some],hev⟩
  rw [c1,hr1]
 obtain ⟨zz,hzz⟩:∃ zz:Array Value,(len * z=0∧zz=#[])∨(¬ len * z=0∧∃ zv,tzero P e=some zv∧zz=zv.cells):=by
  by_cases h0:len * z=0
  ·exact ⟨#[],.inl ⟨h0,rfl⟩⟩
  ·rcases hzero with h1 | h1
   ·exact absurd h1 h0
   ·rw [Option.map_eq_some_iff] at h1
    obtain ⟨zv,hzv,_⟩:=h1
    exact ⟨zv.cells,.inr ⟨h0,zv,hzv,rfl⟩⟩
 obtain ⟨C,hC1,hC2,_,hC4⟩:=z366 z (parts.toList.map fun p=>(p.1,val tmps p.2)) 0 ((Array.range (len * z)).map (zz[· % zz.size]!))
  (fun j a v hj=>⟨(hval j a v hj).1,(hval j a v hj).2.1⟩) (by simp [hlen])
 have hCs:C.size=len * z:=by rw [hC2];simp
 obtain ⟨μ',hst,hB⟩:=z629 h (z26 hf) (e:=e) (z:=z) (rows:=rows) (cs:=C) (cap:=len) (w':=w.alloc (.cells C e)) ⟨w,Below.refl _ _,rfl,rfl⟩ (by omega)
  (by simp only [maxLen];omega) hCs
  (fun r hr=>by obtain ⟨i,hi⟩:=List.mem_iff_getElem?.1 hr;exact (hrs i r hi).1)
  (fun i r j x hi hj=>by
   obtain ⟨hr1,y,hy,hcs⟩:=hrs i r hi
   have hil:i<parts.size:=by rw [hlen,← hrlen];exact (List.getElem?_eq_some_iff.1 hi).1
   have hp:(parts.toList.map fun p=>(p.1,val tmps p.2))[i]?=some (parts[i].1,val tmps parts[i].2):=by simp [hil]
   obtain ⟨_,hvs,y',hy',hrel⟩:=hval i _ _ hp
   rw [hy] at hy';cases hy'
   obtain ⟨c1,c2,c3⟩:=z31 hrel hcs
   have hjz:j<z:=by rw [← hr1];exact (List.getElem?_eq_some_iff.1 hj).1
   have hcell:=hC4 i _ _ j hp hjz
   rw [Nat.zero_add] at hcell
   have hlt:j<(val tmps parts[i].2).cells.size:=by omega
   have hu:=c2 j x (val tmps parts[i].2).cells[j] hj (by simp [hlt])
   exact ⟨_,by rw [hcell];simp [hlt],hu.oneCell (c3 x (List.mem_of_getElem? hj)),hu⟩)
 rw [hrlen] at hst
 refine ⟨.value (.slice (some ⟨w.heap.size,0,none⟩) len len),_,_,μ',fun ds=>?_,.inl rfl,by rw [hd];exact hst,hB⟩
 unfold execOp
 rw [z29]
 have hnlim:¬ (len * z > 2 ^ 24):=by omega
 have hparts:((parts.map fun p=>(p.1,val tmps p.2))).toList=parts.toList.map fun p=>(p.1,val tmps p.2):=by simp
 simp only [val] at hparts hC1
 rw [← hparts] at hC1
 have hrun:(Instr.buildSlice t len (parts.map fun p=>(p.1,val tmps p.2))).run P w=.ok (.slice (some ⟨w.heap.size,0,none⟩) len len) (w.alloc (.cells C e)):=by
  unfold Instr.buildSlice
  rcases hzz with ⟨h0,rfl⟩ | ⟨h0,zv,hzv,rfl⟩
  ·simp only [val,Sem.run_bind,run_underlying (z11 ht),Result.andThen_ok,z30 hz,if_neg hnlim,if_pos h0,hC1,newRow,run_newObj,Sem.run_pure]
   rfl
  ·simp only [val,Sem.run_bind,run_underlying (z11 ht),Result.andThen_ok,z30 hz,if_neg hnlim,if_neg h0,z130 hzv,hC1,newRow,run_newObj,Sem.run_pure]
   rfl
 simp only [val] at hrun
 simp [ho,hrun]
end
end Go.Ab
