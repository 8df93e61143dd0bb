/- A walk engine over abstract states, and the contracts of the functions that the statement reaches: part 6. -/
import Derived.Test.YtgjnckiifffneaaGreatWe
set_option linter.unusedVariables false
set_option linter.unusedSimpArgs false
set_option linter.unnecessarySimpa false
namespace Go.Ab
open Go.RowKit Go.Proofs
set_option maxHeartbeats 16000000
set_option maxRecDepth 20000
attribute [local irreducible] WalkL Walk
def oldTo (k:Kitchen) (l:List Int) (g:Nat):Nat→Int
 | 0=>-1
 | i + 1=>if (batAt k i).good=(g:Int)∧getI l (i:Int) > 0∧(oldTo k l g i<0∨(batAt k i).last<(batAt k (oldTo k l g i).toNat).last) then (i:Int) else oldTo k l g i
theorem z110 (k:Kitchen) (l:List Int) (g:Nat):∀ n,(oldTo k l g n=-1∧∀ j:Nat,j<n→(batAt k j).good=(g:Int)→¬ getI l (j:Int) > 0) ∨
  ∃ i:Nat,oldTo k l g n=(i:Int)∧i<n∧(batAt k i).good=(g:Int)∧getI l (i:Int) > 0∧∀ j:Nat,j<n→(batAt k j).good=(g:Int)→getI l (j:Int) > 0→j≠i→Ahead (fun i=>(batAt k i).last) i j
 | 0=>.inl ⟨rfl,fun j h=>by omega⟩
 | n + 1=>by
  rw [oldTo]
  by_cases hg:(batAt k n).good=(g:Int)∧getI l (n:Int) > 0
  ·rcases z110 k l g n with ⟨h1,h2⟩ | ⟨i,h1,h2,h3,h4,h5⟩
   ·rw [h1,if_pos ⟨hg.1,hg.2,.inl (by decide)⟩]
    refine .inr ⟨n,rfl,Nat.lt_succ_self _,hg.1,hg.2,fun j hj hgj hlj hne=>absurd hlj (h2 j (by omega) hgj)⟩
   ·rw [h1,Int.toNat_natCast]
    by_cases hl:(batAt k n).last<(batAt k i).last
    ·rw [if_pos ⟨hg.1,hg.2,.inr hl⟩]
     refine .inr ⟨n,rfl,Nat.lt_succ_self _,hg.1,hg.2,fun j hj hgj hlj hne=>?_⟩
     by_cases e:j=i
     ·subst e;exact .inl hl
     ·have:=h5 j (by omega) hgj hlj e
      simp only [Ahead] at this ⊢
      omega
    ·rw [if_neg (fun c=>by rcases c.2.2 with c | c <;> omega)]
     refine .inr ⟨i,rfl,by omega,h3,h4,fun j hj hgj hlj hne=>?_⟩
     by_cases e:j=n
     ·subst e
      simp only [Ahead]
      omega
     ·exact h5 j (by omega) hgj hlj hne
  ·rw [if_neg (fun c=>hg ⟨c.1,c.2.1⟩)]
   rcases z110 k l g n with ⟨h1,h2⟩ | ⟨i,h1,h2,h3,h4,h5⟩
   ·refine .inl ⟨h1,fun j hj hgj=>?_⟩
    by_cases e:j=n
    ·subst e;exact fun c=>hg ⟨hgj,c⟩
    ·exact h2 j (by omega) hgj
   ·refine .inr ⟨i,h1,by omega,h3,h4,fun j hj hgj hlj hne=>?_⟩
    by_cases e:j=n
    ·subst e;exact absurd ⟨hgj,hlj⟩ hg
    ·exact h5 j (by omega) hgj hlj hne
theorem z879 {l:List Int} {i:Nat} (hi:i<l.length):l.set i (getI l (i:Int))=l:=by
 refine List.ext_getElem? fun j=>?_
 rw [List.getElem?_set]
 by_cases h:i=j
 ·subst h
  rw [if_pos rfl,if_pos hi,z231,List.getD_eq_getElem?_getD,List.getElem?_eq_getElem hi]
  rfl
 ·rw [if_neg h]
theorem z182 {k:Kitchen} {g:Nat}:∀ (o:List Nat) (l:List Int) (m:Int),(∀ x ∈ o,x<l.length)→0≤m→(∀ j ∈ o,(batAt k j).good=(g:Int)→getI l (j:Int)=0)→o.foldl (takeStep k g) (l,m)=(l,m)
 | [],_,_,_,_,_=>rfl
 | i::o,l,m,hx,hm,h=>by
  have e:takeStep k g (l,m) i=(l,m):=by
   unfold takeStep
   split
   ·rename_i hg
    have h0:=h i (by simp) hg
    have e1:min m (getI l (i:Int))=0:=by omega
    dsimp only
    rw [e1,Int.sub_zero,Int.sub_zero,z879 (hx i (by simp))]
   ·rfl
  rw [List.foldl_cons,e]
  exact z182 o l m (fun x hx'=>hx x (by simp [hx'])) hm fun j hj=>h j (by simp [hj])
theorem z894 {k:Kitchen} {g:Nat} {l:List Int} {m:Int} {i:Nat} (hl:l.length=k.batches.length) (ha:AmtOk l) (hm:0≤m) (ho:oldTo k l g k.batches.length=(i:Int)) :
  (ordK k).foldl (takeStep k g) (l.set i (getI l (i:Int) - min m (getI l (i:Int))),m - min m (getI l (i:Int)))=(ordK k).foldl (takeStep k g) (l,m):=by
 obtain ⟨o1,o2⟩:=z205 k
 rcases z110 k l g k.batches.length with ⟨h1,_⟩ | ⟨i',h1,h2,h3,h4,h5⟩
 ·omega
 ·have e:i'=i:=by omega
  subst e
  obtain ⟨A,B,hAB⟩:=List.append_of_mem (o1.mem_iff.2 (List.mem_range.2 h2))
  have hnd:(ordK k).Nodup:=o1.nodup_iff.2 List.nodup_range
  have hlt:∀ x ∈ ordK k,x<l.length:=fun x hx=>by rw [hl];exact z49 hx
  rw [hAB] at hnd o2 hlt ⊢
  rw [List.pairwise_append] at o2
  rw [List.nodup_append] at hnd
  have hiA:∀ j ∈ A,j≠i':=fun j hj e=>hnd.2.2 j hj i' (by simp) e
  have hA:∀ j ∈ A,(batAt k j).good=(g:Int)→getI l (j:Int)=0:=fun j hj hgj=>by
   have hn:=(ha.get (j:Int)).1
   by_cases hp:getI l (j:Int) > 0
   ·have q1:=h5 j (by rw [← hl];exact hlt j (by simp [hj])) hgj hp (hiA j hj)
    have q2:=o2.2.2 j hj i' (by simp)
    simp only [Ahead] at q1 q2
    omega
   ·omega
  obtain ⟨t,ht⟩:∃ t,t=min m (getI l (i':Int)):=⟨_,rfl⟩
  have hti:=(ha.get (i':Int)).1
  rw [← ht]
  have hil:i'<l.length:=hlt i' (by simp)
  rw [List.foldl_append,List.foldl_append,z182 A l m (fun x hx=>hlt x (by simp [hx])) hm hA,
   z182 A _ (m - t) (fun x hx=>by rw [List.length_set];exact hlt x (by simp [hx])) (by omega) (fun j hj hgj=>by rw [z95 hil,if_neg (hiA j hj)];exact hA j hj hgj),List.foldl_cons,List.foldl_cons]
  have e1:takeStep k g (l,m) i'=(l.set i' (getI l (i':Int) - t),m - t):=by rw [takeStep,if_pos h3,ht]
  have e2:takeStep k g (l.set i' (getI l (i':Int) - t),m - t) i'=(l.set i' (getI l (i':Int) - t),m - t):=by
   rw [takeStep,if_pos h3]
   dsimp only
   rw [z95 hil,if_pos rfl]
   have e3:min (m - t) (getI l (i':Int) - t)=0:=by omega
   rw [e3,Int.sub_zero,Int.sub_zero,List.set_set]
  rw [e1,e2]
theorem zf139 (k:Kitchen) (hb:k.batches.length≤10) (l:List Int) (g:Nat) (hl:l.length=k.batches.length):Fn Tryz.prog 139 [.agg k.cells,.sl (intRows l),.i (g:Int)] (.i (oldTo k l g k.batches.length)):=by
 have hr:=z110 k l g
 obtain ⟨O,hO⟩:∃ O:Nat→Int,O=oldTo k l g:=⟨_,rfl⟩
 have hO0:O 0=-1:=by rw [hO];rfl
 have hOs:∀ i,O (i + 1)=if (batAt k i).good=(g:Int)∧getI l (i:Int) > 0∧(O i<0∨(batAt k i).last<(batAt k (O i).toNat).last) then (i:Int) else O i:=fun i=>by rw [hO];rfl
 rw [← hO] at hr ⊢
 refine z14 51 Tryz.call139 Tryz.func139 rfl (by decide) fun J=>?_
 simp only [go_sem,St.start,Tryz.ntmps139,Tryz.results139,Kitchen.cells]
 repeat (first | refine nx ?_ | (refine z10 fun K hK=>?_;simp only [go_sem];apply hK;clear hK K))
 refine z15 (fun (i:Nat)=>[(8,.d (.i (i:Int))),(7,.d (.i (O i)))]) (fun _=>[]) (fun i=>i≤k.batches.length) (fun i=>k.batches.length - i) 0 ?_ (Nat.zero_le _) ?_
 ·rw [hO0]
  simp only [go_sem]
  refine weA ?_ ?_ <;> simp
  all_goals first | done | rfl | trace_state
 ·intro i hi
  simp only [go_sem]
  repeat (first | refine nx ?_ | (refine z10 fun K hK=>?_;simp only [go_sem,z36,hl];apply hK;clear hK K))
  refine z13 rfl (fun hb2=>?_) (fun hb2=>?_)
  ·have hlt:i<k.batches.length:=by simpa using hb2
   have hw:IntKind.i64.wrap ((i:Int) + 1)=((i + 1:Nat):Int):=by rw [z17 (by omega)];simp
   have gb:=z167 hlt
   rw [Batch.row] at gb
   have gl:=z27 (l:=l) (i:=i) (by omega)
   have hni:¬ ((i:Int)<0):=by omega
   have hs:=hOs i
   by_cases q1:(batAt k i).good=(g:Int)
   ·have e1:((batAt k i).good == (g:Int))=true:=by simpa using q1
    by_cases q2:getI l (i:Int) > 0
    ·have e2:decide (getI l (i:Int) > 0)=true:=decide_eq_true q2
     rcases hr i with ⟨p1,_⟩ | ⟨j,p1,p2,_⟩
     ·rw [if_pos ⟨q1,q2,.inl (by omega)⟩] at hs
      have e3:decide (O i<0)=true:=decide_eq_true (by omega)
      repeat (first | refine nx ?_ | (refine z10 fun K hK=>?_;simp only [go_sem];apply hK;clear hK K))
      refine z16 (by kernel_rfl) (by kernel_rfl) fun K hK=>?_
      simp only [go_sem,gb,gl,hni,e1,e2,e3]
      refine ⟨by kernel_rfl,hK _ ?_⟩
      clear hK K
      repeat (first | refine z12 rfl ?_ | refine z11 rfl ?_ | refine nx ?_ | (refine z10 fun K hK=>?_;simp only [go_sem,hw];apply hK;clear hK K))
      refine ⟨rfl,i + 1,?_,hlt,by omega⟩
      rw [hs]
      refine weA ?_ ?_ <;> simp
      all_goals first | done | rfl | trace_state
     ·have e3:decide ((j:Int)<0)=false:=decide_eq_false (by omega)
      have gj:=z167 (k:=k) (i:=j) (by omega)
      rw [Batch.row] at gj
      have hnj:¬ ((j:Int)<0):=by omega
      rw [p1] at hs ⊢
      rw [Int.toNat_natCast] at hs
      by_cases q3:(batAt k i).last<(batAt k j).last
      ·have e4:decide ((batAt k i).last<(batAt k j).last)=true:=decide_eq_true q3
       rw [if_pos ⟨q1,q2,.inr q3⟩] at hs
       repeat (first | refine nx ?_ | (refine z10 fun K hK=>?_;simp only [go_sem];apply hK;clear hK K))
       refine z16 (by kernel_rfl) (by kernel_rfl) fun K hK=>?_
       simp only [go_sem,gb,gl,hni,e1,e2,e3,gj,hnj,e4]
       refine ⟨by kernel_rfl,hK _ ?_⟩
       clear hK K
       repeat (first | refine z12 rfl ?_ | refine z11 rfl ?_ | refine nx ?_ | (refine z10 fun K hK=>?_;simp only [go_sem,hw];apply hK;clear hK K))
       refine ⟨rfl,i + 1,?_,hlt,by omega⟩
       rw [hs]
       refine weA ?_ ?_ <;> simp
       all_goals first | done | rfl | trace_state
      ·have e4:decide ((batAt k i).last<(batAt k j).last)=false:=decide_eq_false q3
       rw [if_neg (fun c=>by rcases c.2.2 with c | c <;> omega)] at hs
       repeat (first | refine nx ?_ | (refine z10 fun K hK=>?_;simp only [go_sem];apply hK;clear hK K))
       refine z16 (by kernel_rfl) (by kernel_rfl) fun K hK=>?_
       simp only [go_sem,gb,gl,hni,e1,e2,e3,gj,hnj,e4]
       refine ⟨by kernel_rfl,hK _ ?_⟩
       clear hK K
       repeat (first | refine z12 rfl ?_ | refine z11 rfl ?_ | refine nx ?_ | (refine z10 fun K hK=>?_;simp only [go_sem,hw];apply hK;clear hK K))
       refine ⟨rfl,i + 1,?_,hlt,by omega⟩
       rw [hs]
       refine weA ?_ ?_ <;> simp
       all_goals first | done | rfl | trace_state
    ·have e2:decide (getI l (i:Int) > 0)=false:=decide_eq_false q2
     rw [if_neg (fun c=>q2 c.2.1)] at hs
     repeat (first | refine nx ?_ | (refine z10 fun K hK=>?_;simp only [go_sem];apply hK;clear hK K))
     refine z16 (by kernel_rfl) (by kernel_rfl) fun K hK=>?_
     simp only [go_sem,gb,gl,hni,e1,e2]
     refine ⟨by kernel_rfl,hK _ ?_⟩
     clear hK K
     repeat (first | refine z12 rfl ?_ | refine z11 rfl ?_ | refine nx ?_ | (refine z10 fun K hK=>?_;simp only [go_sem,hw];apply hK;clear hK K))
     refine ⟨rfl,i + 1,?_,hlt,by omega⟩
     rw [hs]
     refine weA ?_ ?_ <;> simp
     all_goals first | done | rfl | trace_state
   ·have e1:((batAt k i).good == (g:Int))=false:=by simpa using q1
    rw [if_neg (fun c=>q1 c.1)] at hs
    repeat (first | refine nx ?_ | (refine z10 fun K hK=>?_;simp only [go_sem];apply hK;clear hK K))
    refine z16 (by kernel_rfl) (by kernel_rfl) fun K hK=>?_
    simp only [go_sem,gb,gl,hni,e1]
    refine ⟨by kernel_rfl,hK _ ?_⟩
    clear hK K
    repeat (first | refine z12 rfl ?_ | refine z11 rfl ?_ | refine nx ?_ | (refine z10 fun K hK=>?_;simp only [go_sem,hw];apply hK;clear hK K))
    refine ⟨rfl,i + 1,?_,hlt,by omega⟩
    rw [hs]
    refine weA ?_ ?_ <;> simp
    all_goals first | done | rfl | trace_state
  ·have he:i=k.batches.length:=by (have:¬ i<k.batches.length:=by simpa using hb2);omega
   subst he
   repeat (first | refine nx ?_ | (refine z10 fun K hK=>?_;simp only [go_sem];apply hK;clear hK K))
   simp only [go_sem]
end Go.Ab

namespace Go.Ab
open Go.RowKit Go.Proofs
set_option maxHeartbeats 16000000
set_option maxRecDepth 20000
attribute [local irreducible] WalkL Walk
theorem z352 {k:Kitchen} {g:Nat}:∀ (o:List Nat) (l:List Int),(∀ x ∈ o,x<l.length)→AmtOk l→o.foldl (takeStep k g) (l,0)=(l,0)
 | [],_,_,_=>rfl
 | i::o,l,hx,ha=>by
  have e:takeStep k g (l,0) i=(l,0):=by
   unfold takeStep
   split
   ·have:=(ha.get (i:Int)).1
    have e1:min 0 (getI l (i:Int))=0:=by omega
    dsimp only
    rw [e1,Int.sub_zero,Int.sub_zero,z879 (hx i (by simp))]
   ·rfl
  rw [List.foldl_cons,e]
  exact z352 o l (fun x hx'=>hx x (by simp [hx'])) ha
def ServeC (k:Kitchen) (l ds cs:List Int):Option (List Int)→Prop
 | some c=>FnG Tryz.prog 103 [] [] (List.map AV.d [.agg k.cells,.sl (intRows l),.sl (intRows ds),.sl (intRows cs)]) (.tup [.own 0,.d (.bool true)]) [.arr 3 1 (intRows c)]
 | none=>Fn Tryz.prog 103 [.agg k.cells,.sl (intRows l),.sl (intRows ds),.sl (intRows cs)] (.tup [.sl (intRows l),.bool false])
theorem zf103 (k:Kitchen) (hg:KitGood k) (l ds cs:List Int) (hl:l.length=k.batches.length) (ha:AmtOk l) (hd:DayOk k ds fun (g:Nat)=>getI cs (g:Int)) (hcl:cs.length=ds.length) :
  ServeC k l ds cs (takeTo k (ordK k) (needL k ds fun (g:Nat)=>getI cs (g:Int)) l k.allerg.length):=by
 have hbl:=hg.batches
 have hgo:=hg.goods
 have e1:l.length≤549755813888:=by omega
 have hnat:∀ g:Nat,g<k.allerg.length→getI (needL k ds fun (g:Nat)=>getI cs (g:Int)) (g:Int)=needG k ds (fun (g:Nat)=>getI cs (g:Int)) g ds.length:=fun g hgl=>by
  rw [z231,needL,List.getD_eq_getElem?_getD,List.getElem?_map,List.getElem?_range hgl]
  rfl
 have hnok:=z58 hg hd
 obtain ⟨nd,hnd⟩:∃ nd,nd=needL k ds fun (g:Nat)=>getI cs (g:Int):=⟨_,rfl⟩
 rw [← hnd] at hnok hnat ⊢
 have hn0:∀ x ∈ nd,0≤x:=fun x hx=>(hnok x hx).1
 have hto:=fun g c hc=>z116 (k:=k) (o:=ordK k) ha hn0 g c hc
 have hnrg:∀ g:Nat,g<k.allerg.length→0≤getI nd (g:Int)∧getI nd (g:Int)≤1099511627776:=fun g _=>z155 hnok (by decide) _
 cases hres:takeTo k (ordK k) nd l k.allerg.length with
 | some c =>
  unfold ServeC
  refine z65 56 Tryz.call103 Tryz.func103 rfl (by decide) [15] [] (by simp only [List.length_cons,List.length_nil];decide) (by kernel_rfl) fun J=>?_
  simp only [go_sem,St.startG,Tryz.ntmps103,Tryz.results103,List.map_cons,List.map_nil,List.range_succ,  Kitchen.cells]
  repeat (first | refine nx ?_ | (refine z10 fun K hK=>?_;simp only [go_sem,e1,List.nil_append,List.length_nil,Nat.zero_add];apply hK;clear hK K))
  refine z15 (fun (q:Nat × List Int)=>[(11,.d (.i (q.1:Int)))]) (fun q=>[(15,some (.arr 3 1 (intRows q.2)))]) (fun q=>q.1≤k.allerg.length∧takeTo k (ordK k) nd l q.1=some q.2) (fun q=>k.allerg.length - q.1) (0,l) ?_ ⟨Nat.zero_le _,rfl⟩ ?_
  ·simp only [go_sem]
   refine weA ?_ ?_ <;> simp
   all_goals first | done | rfl | trace_state
  ·rintro ⟨g,cur⟩ ⟨hgl,hcur⟩
   dsimp only at hgl hcur
   obtain ⟨a1,a2⟩:=hto g cur hcur
   simp only [go_sem]
   repeat (first | refine nx ?_ | (refine z10 fun K hK=>?_;simp only [go_sem,z36];apply hK;clear hK K))
   refine z13 rfl (fun hb=>?_) (fun hb=>?_)
   ·have hlt:g<k.allerg.length:=by simpa using hb
    have hw:IntKind.i64.wrap ((g:Int) + 1)=((g + 1:Nat):Int):=by rw [z17 (by omega)];simp
    have h26:=zf138 k hg ds cs g hlt hd hcl
    rw [← hnat g hlt] at h26
    have hnr:=hnrg g hlt
    obtain ⟨N,hN⟩:∃ N,N=getI nd (g:Int):=⟨_,rfl⟩
    have hnx:takeTo k (ordK k) nd l (g + 1)=if ((ordK k).foldl (takeStep k g) (cur,N)).2 > 0 then none else some ((ordK k).foldl (takeStep k g) (cur,N)).1:=by rw [takeTo,hcur,hN];rfl
    rw [← hN] at h26 hnr
    rw [Kitchen.cells] at h26
    repeat (first | refine nx ?_ | (refine z10 fun K hK=>?_;simp only [go_sem];(repeat (first | (refine ⟨_,.lent (hf:=h26) (hd:=rfl) (hr:=rfl),?_⟩;simp only [go_sem]) | (refine ⟨_,.given (hf:=h26) (hd:=rfl) (ha:=rfl),?_⟩;simp only [go_sem])));apply hK;clear hK K))
    refine z15 (fun (q:List Int × Int)=>[(12,.d (.i q.2))]) (fun q=>[(15,some (.arr 3 1 (intRows q.1)))]) (fun q=>(ordK k).foldl (takeStep k g) q=(ordK k).foldl (takeStep k g) (cur,N)∧AmtOk q.1∧q.1.length=k.batches.length∧0≤q.2∧q.2≤1099511627776) (fun q=>q.2.toNat) (cur,N) ?_ ⟨rfl,a1,a2.trans hl,hnr.1,hnr.2⟩ ?_
    ·simp only [go_sem]
     refine weA ?_ ?_ <;> simp
     all_goals first | done | rfl | trace_state
    ·rintro ⟨A,m⟩ ⟨hf,hA,hAl,hm0,hm1⟩
     dsimp only at hf hA hAl hm0 hm1
     simp only [go_sem]
     repeat (first | refine nx ?_ | (refine z10 fun K hK=>?_;simp only [go_sem];apply hK;clear hK K))
     refine z13 rfl (fun hb2=>?_) (fun hb2=>?_)
     ·have hmp:m > 0:=by simpa using hb2
      have h101:=zf139 k hg.batches A g hAl
      rw [Kitchen.cells] at h101
      rcases z110 k A g k.batches.length with ⟨p1,p2⟩ | ⟨i,p1,p2,p3,p4,_⟩
      ·rw [p1] at h101
       have hidle:=z182 (k:=k) (g:=g) (ordK k) A m (fun x hx=>by rw [hAl];exact z49 hx) hm0 (fun j hj hgj=>by
        have:=p2 j (z49 hj) hgj
        have:=(hA.get (j:Int)).1
        omega)
       rw [hidle] at hf
       rw [← hf,if_pos hmp] at hnx
       have hnone:takeTo k (ordK k) nd l k.allerg.length=none:=z201 hnx (by omega)
       rw [hres] at hnone;cases hnone
      ·rw [p1] at h101
       have hold:=z894 hAl hA hm0 p1
       have hli:=hA.get (i:Int)
       have hiA:i<A.length:=by omega
       have gA:=z27 hiA
       have hni:¬ ((i:Int)<0):=by omega
       have d1:decide ((i:Int)<0)=false:=decide_eq_false (by omega)
       have w1:IntKind.i64.wrap (getI A (i:Int) - min m (getI A (i:Int)))=getI A (i:Int) - min m (getI A (i:Int)):=z17 (by omega)
       have w2:IntKind.i64.wrap (m - min m (getI A (i:Int)))=m - min m (getI A (i:Int)):=z17 (by omega)
       have su:(intRows A).set i [.i (getI A (i:Int) - min m (getI A (i:Int)))]=intRows (A.set i (getI A (i:Int) - min m (getI A (i:Int)))):=z51 A i _
       repeat (first | refine z12 rfl ?_ | refine z11 rfl ?_ | refine nx ?_ | (refine z10 fun K hK=>?_;simp only [go_sem,d1,hni,hiA,gA,w1,w2,su];(repeat (first | (refine ⟨_,.lent (hf:=h101) (hd:=rfl) (hr:=rfl),?_⟩;simp only [go_sem,d1,hni,hiA,gA,w1,w2,su]) | (refine ⟨_,.given (hf:=h101) (hd:=rfl) (ha:=rfl),?_⟩;simp only [go_sem,d1,hni,hiA,gA,w1,w2,su])));apply hK;clear hK K))
       refine ⟨rfl,(A.set i (getI A (i:Int) - min m (getI A (i:Int))),m - min m (getI A (i:Int))),?_,⟨hold.trans hf,hA.set i (by omega),by rw [List.length_set,hAl],by dsimp only;omega,by dsimp only;omega⟩,by dsimp only;omega⟩
       refine weA ?_ ?_ <;> simp
       all_goals first | done | rfl | trace_state
     ·have hmz:m=0:=by have:¬ m > 0:=by simpa using hb2
                       omega
      subst hmz
      have hz:=z352 (k:=k) (g:=g) (ordK k) A (fun x hx=>by rw [hAl];exact z49 hx) hA
      rw [hz] at hf
      rw [← hf,if_neg (show ¬ (0:Int) > 0 by decide)] at hnx
      repeat (first | refine nx ?_ | (refine z10 fun K hK=>?_;simp only [go_sem,hw];apply hK;clear hK K))
      refine ⟨rfl,(g + 1,A),?_,⟨hlt,hnx⟩,by dsimp only;omega⟩
      refine weA ?_ ?_ <;> simp
      all_goals first | done | rfl | trace_state
   ·have he:g=k.allerg.length:=by (have:¬ g<k.allerg.length:=by simpa using hb);omega
    subst he
    rw [hres] at hcur;cases hcur
    repeat (first | refine nx ?_ | (refine z10 fun K hK=>?_;simp only [go_sem];apply hK;clear hK K))
    simp only [go_sem,retG]
 | none =>
  unfold ServeC
  refine z14 56 Tryz.call103 Tryz.func103 rfl (by decide) fun J=>?_
  simp only [go_sem,St.start,Tryz.ntmps103,Tryz.results103,Kitchen.cells]
  repeat (first | refine nx ?_ | (refine z10 fun K hK=>?_;simp only [go_sem,e1,List.nil_append,List.length_nil,Nat.zero_add];apply hK;clear hK K))
  refine z15 (fun (q:Nat × List Int)=>[(11,.d (.i (q.1:Int)))]) (fun q=>[(15,some (.arr 3 1 (intRows q.2)))]) (fun q=>q.1≤k.allerg.length∧takeTo k (ordK k) nd l q.1=some q.2) (fun q=>k.allerg.length - q.1) (0,l) ?_ ⟨Nat.zero_le _,rfl⟩ ?_
  ·simp only [go_sem]
   refine weA ?_ ?_ <;> simp
   all_goals first | done | rfl | trace_state
  ·rintro ⟨g,cur⟩ ⟨hgl,hcur⟩
   dsimp only at hgl hcur
   obtain ⟨a1,a2⟩:=hto g cur hcur
   simp only [go_sem]
   repeat (first | refine nx ?_ | (refine z10 fun K hK=>?_;simp only [go_sem,z36];apply hK;clear hK K))
   refine z13 rfl (fun hb=>?_) (fun hb=>?_)
   ·have hlt:g<k.allerg.length:=by simpa using hb
    have hw:IntKind.i64.wrap ((g:Int) + 1)=((g + 1:Nat):Int):=by rw [z17 (by omega)];simp
    have h26:=zf138 k hg ds cs g hlt hd hcl
    rw [← hnat g hlt] at h26
    have hnr:=hnrg g hlt
    obtain ⟨N,hN⟩:∃ N,N=getI nd (g:Int):=⟨_,rfl⟩
    have hnx:takeTo k (ordK k) nd l (g + 1)=if ((ordK k).foldl (takeStep k g) (cur,N)).2 > 0 then none else some ((ordK k).foldl (takeStep k g) (cur,N)).1:=by rw [takeTo,hcur,hN];rfl
    rw [← hN] at h26 hnr
    rw [Kitchen.cells] at h26
    repeat (first | refine nx ?_ | (refine z10 fun K hK=>?_;simp only [go_sem];(repeat (first | (refine ⟨_,.lent (hf:=h26) (hd:=rfl) (hr:=rfl),?_⟩;simp only [go_sem]) | (refine ⟨_,.given (hf:=h26) (hd:=rfl) (ha:=rfl),?_⟩;simp only [go_sem])));apply hK;clear hK K))
    refine z15 (fun (q:List Int × Int)=>[(12,.d (.i q.2))]) (fun q=>[(15,some (.arr 3 1 (intRows q.1)))]) (fun q=>(ordK k).foldl (takeStep k g) q=(ordK k).foldl (takeStep k g) (cur,N)∧AmtOk q.1∧q.1.length=k.batches.length∧0≤q.2∧q.2≤1099511627776) (fun q=>q.2.toNat) (cur,N) ?_ ⟨rfl,a1,a2.trans hl,hnr.1,hnr.2⟩ ?_
    ·simp only [go_sem]
     refine weA ?_ ?_ <;> simp
     all_goals first | done | rfl | trace_state
    ·rintro ⟨A,m⟩ ⟨hf,hA,hAl,hm0,hm1⟩
     dsimp only at hf hA hAl hm0 hm1
     simp only [go_sem]
     repeat (first | refine nx ?_ | (refine z10 fun K hK=>?_;simp only [go_sem];apply hK;clear hK K))
     refine z13 rfl (fun hb2=>?_) (fun hb2=>?_)
     ·have hmp:m > 0:=by simpa using hb2
      have h101:=zf139 k hg.batches A g hAl
      rw [Kitchen.cells] at h101
      rcases z110 k A g k.batches.length with ⟨p1,p2⟩ | ⟨i,p1,p2,p3,p4,_⟩
      ·rw [p1] at h101
       have hidle:=z182 (k:=k) (g:=g) (ordK k) A m (fun x hx=>by rw [hAl];exact z49 hx) hm0 (fun j hj hgj=>by
        have:=p2 j (z49 hj) hgj
        have:=(hA.get (j:Int)).1
        omega)
       rw [hidle] at hf
       rw [← hf,if_pos hmp] at hnx
       have hnone:takeTo k (ordK k) nd l k.allerg.length=none:=z201 hnx (by omega)
       repeat (first | refine z12 rfl ?_ | refine z11 rfl ?_ | refine nx ?_ | (refine z10 fun K hK=>?_;simp only [go_sem];(repeat (first | (refine ⟨_,.lent (hf:=h101) (hd:=rfl) (hr:=rfl),?_⟩;simp only [go_sem]) | (refine ⟨_,.given (hf:=h101) (hd:=rfl) (ha:=rfl),?_⟩;simp only [go_sem])));apply hK;clear hK K))
       simp only [go_sem]
      ·rw [p1] at h101
       have hold:=z894 hAl hA hm0 p1
       have hli:=hA.get (i:Int)
       have hiA:i<A.length:=by omega
       have gA:=z27 hiA
       have hni:¬ ((i:Int)<0):=by omega
       have d1:decide ((i:Int)<0)=false:=decide_eq_false (by omega)
       have w1:IntKind.i64.wrap (getI A (i:Int) - min m (getI A (i:Int)))=getI A (i:Int) - min m (getI A (i:Int)):=z17 (by omega)
       have w2:IntKind.i64.wrap (m - min m (getI A (i:Int)))=m - min m (getI A (i:Int)):=z17 (by omega)
       have su:(intRows A).set i [.i (getI A (i:Int) - min m (getI A (i:Int)))]=intRows (A.set i (getI A (i:Int) - min m (getI A (i:Int)))):=z51 A i _
       repeat (first | refine z12 rfl ?_ | refine z11 rfl ?_ | refine nx ?_ | (refine z10 fun K hK=>?_;simp only [go_sem,d1,hni,hiA,gA,w1,w2,su];(repeat (first | (refine ⟨_,.lent (hf:=h101) (hd:=rfl) (hr:=rfl),?_⟩;simp only [go_sem,d1,hni,hiA,gA,w1,w2,su]) | (refine ⟨_,.given (hf:=h101) (hd:=rfl) (ha:=rfl),?_⟩;simp only [go_sem,d1,hni,hiA,gA,w1,w2,su])));apply hK;clear hK K))
       refine ⟨rfl,(A.set i (getI A (i:Int) - min m (getI A (i:Int))),m - min m (getI A (i:Int))),?_,⟨hold.trans hf,hA.set i (by omega),by rw [List.length_set,hAl],by dsimp only;omega,by dsimp only;omega⟩,by dsimp only;omega⟩
       refine weA ?_ ?_ <;> simp
       all_goals first | done | rfl | trace_state
     ·have hmz:m=0:=by have:¬ m > 0:=by simpa using hb2
                       omega
      subst hmz
      have hz:=z352 (k:=k) (g:=g) (ordK k) A (fun x hx=>by rw [hAl];exact z49 hx) hA
      rw [hz] at hf
      rw [← hf,if_neg (show ¬ (0:Int) > 0 by decide)] at hnx
      repeat (first | refine nx ?_ | (refine z10 fun K hK=>?_;simp only [go_sem,hw];apply hK;clear hK K))
      refine ⟨rfl,(g + 1,A),?_,⟨hlt,hnx⟩,by dsimp only;omega⟩
      refine weA ?_ ?_ <;> simp
      all_goals first | done | rfl | trace_state
   ·have he:g=k.allerg.length:=by (have:¬ g<k.allerg.length:=by simpa using hb);omega
    subst he
    rw [hres] at hcur;cases hcur
end Go.Ab
namespace Go.Ab
open Go.RowKit Go.Proofs
set_option maxHeartbeats 16000000
set_option maxRecDepth 20000
attribute [local irreducible] WalkL Walk
def endRow (b:Bool) (d:List Diners):List Int:=d.map fun g=>if b=true then g.count.hi else g.count.lo
def endsTo (k:Kitchen) (b:Bool) (i:Nat):List (List Int):=(k.days.take i).map (endRow b)
def endsL (k:Kitchen) (b:Bool):List (List Int):=k.days.map (endRow b)
theorem zf68 (k:Kitchen) (hg:KitGood k) (b:Bool):Fn Tryz.prog 68 [.agg k.cells,.bool b] (.sl (listRows (endsL k b))):=by
 have hdy:=hg.days
 cases b with
 | false =>
  have hpick:∀ g:Diners,(if (false:Bool)=true then g.count.hi else g.count.lo)=g.count.lo:=fun g=>rfl
  refine z14 58 Tryz.call68 Tryz.func68 rfl (by decide) fun J=>?_
  simp only [go_sem,St.start,Tryz.ntmps68,Tryz.results68,Kitchen.cells]
  repeat (first | refine nx ?_ | (refine z10 fun K hK=>?_;simp only [go_sem];apply hK;clear hK K))
  refine z15 (fun (i:Nat)=>[(6,.d (.i (i:Int))),(5,.own 56)]) (fun i=>[(56,some (.arr 22 1 (listRows (endsTo k false i))))]) (fun i=>i≤k.days.length) (fun i=>k.days.length - i) 0 ?_ (Nat.zero_le _) ?_
  ·simp only [go_sem]
   refine z53 [56] ?_ ?_ rfl rfl <;> simp [lessT,lessM,lessB,AV.less,endsTo,listRows]
  ·intro i hi
   simp only [go_sem]
   repeat (first | refine nx ?_ | (refine z10 fun K hK=>?_;simp only [go_sem];apply hK;clear hK K))
   refine z13 rfl (fun hb=>?_) (fun hb=>?_)
   ·have hlt:i<k.days.length:=by simpa using hb
    have hw:IntKind.i64.wrap ((i:Int) + 1)=((i + 1:Nat):Int):=by rw [z17 (by omega)];simp
    have gd:=z289 hlt
    have hni:¬ ((i:Int)<0):=by omega
    obtain ⟨x,hx⟩:∃ x,k.days[i]?=some x:=⟨_,List.getElem?_eq_getElem hlt⟩
    have e:k.days.getD i []=x:=by rw [List.getD_eq_getElem?_getD,hx];rfl
    have hx3:=(hg.groups x (List.mem_of_getElem? hx)).1
    rw [e] at gd
    have hnx:endsTo k false (i + 1)=endsTo k false i++[x.map fun g=>g.count.lo]:=by
     rw [endsTo,endsTo,List.take_add_one,hx]
     simp [endRow]
    obtain ⟨E,hE⟩:∃ E,E=endsTo k false i:=⟨_,rfl⟩
    have hEl:E.length + 1≤549755813888:=by
     rw [hE,endsTo]
     simp
     omega
    rw [← hE] at hnx ⊢
    have hap:listRows E++[[.sl (intRows (x.map fun g=>g.count.lo))]]=listRows (endsTo k false (i + 1)):=by rw [hnx];simp [listRows]
    repeat (first | refine nx ?_ | (refine z10 fun K hK=>?_;simp only [go_sem];apply hK;clear hK K))
    refine z15 (fun (j:Nat)=>[(8,.d (.i (j:Int))),(7,.own 52)]) (fun j=>[(52,some (.arr 3 1 (intRows ((x.take j).map fun g=>g.count.lo))))]) (fun j=>j≤x.length) (fun j=>x.length - j) 0 ?_ (Nat.zero_le _) ?_
    ·simp only [go_sem]
     refine z53 [52] ?_ ?_ rfl rfl <;> simp [lessT,lessM,lessB,AV.less,intRows]
    ·intro j hj
     simp only [go_sem]
     repeat (first | refine nx ?_ | (refine z10 fun K hK=>?_;simp only [go_sem,gd,hni];apply hK;clear hK K))
     refine z13 rfl (fun hb=>?_) (fun hb=>?_)
     ·have hltj:j<x.length:=by simpa using hb
      have hwj:IntKind.i64.wrap ((j:Int) + 1)=((j + 1:Nat):Int):=by rw [z17 (by omega)];simp
      obtain ⟨y,hy⟩:∃ y,x[j]?=some y:=⟨_,List.getElem?_eq_getElem hltj⟩
      have gy:=z80 hy
      rw [Diners.row] at gy
      have hnj:¬ ((j:Int)<0):=by omega
      have hs:intRows ((x.take j).map fun g=>g.count.lo)++[[.i y.count.lo]]=intRows ((x.take (j + 1)).map fun g=>g.count.lo):=by rw [List.take_add_one,hy];simp [intRows]
      have hsl:((x.take j).map fun g=>g.count.lo).length + 1≤549755813888:=by simp;omega
      obtain ⟨R,hR⟩:∃ R,R=(x.take j).map fun g=>g.count.lo:=⟨_,rfl⟩
      rw [← hR] at hs hsl ⊢
      repeat (first | refine z12 rfl ?_ | refine z11 rfl ?_ | refine nx ?_ | (refine z10 fun K hK=>?_;simp only [go_sem,gd,hni,gy,hnj,hs,hsl,hwj];apply hK;clear hK K))
      refine ⟨rfl,j + 1,?_,hltj,by omega⟩
      refine weA ?_ ?_ <;> simp
      all_goals first | done | rfl | trace_state
     ·have he:j=x.length:=by (have:¬ j<x.length:=by simpa using hb);omega
      subst he
      rw [List.take_length]
      repeat refine nx ?_
      refine z20 [52] ?_
      simp only [go_sem]
      repeat (first | refine nx ?_ | (refine z10 fun K hK=>?_;simp only [go_sem,hEl,z26,hap,hw];apply hK;clear hK K))
      refine ⟨rfl,i + 1,?_,hlt,by omega⟩
      refine weA ?_ ?_ <;> simp
      all_goals first | done | rfl | trace_state
   ·have he:i=k.days.length:=by (have:¬ i<k.days.length:=by simpa using hb);omega
    subst he
    have ha:endsTo k false k.days.length=endsL k false:=by rw [endsTo,List.take_length];rfl
    rw [ha]
    repeat (first | refine nx ?_ | (refine z10 fun K hK=>?_;simp only [go_sem];apply hK;clear hK K))
    simp only [go_sem]
 | true =>
  have hpick:∀ g:Diners,(if (true:Bool)=true then g.count.hi else g.count.lo)=g.count.hi:=fun g=>rfl
  refine z14 58 Tryz.call68 Tryz.func68 rfl (by decide) fun J=>?_
  simp only [go_sem,St.start,Tryz.ntmps68,Tryz.results68,Kitchen.cells]
  repeat (first | refine nx ?_ | (refine z10 fun K hK=>?_;simp only [go_sem];apply hK;clear hK K))
  refine z15 (fun (i:Nat)=>[(6,.d (.i (i:Int))),(5,.own 56)]) (fun i=>[(56,some (.arr 22 1 (listRows (endsTo k true i))))]) (fun i=>i≤k.days.length) (fun i=>k.days.length - i) 0 ?_ (Nat.zero_le _) ?_
  ·simp only [go_sem]
   refine z53 [56] ?_ ?_ rfl rfl <;> simp [lessT,lessM,lessB,AV.less,endsTo,listRows]
  ·intro i hi
   simp only [go_sem]
   repeat (first | refine nx ?_ | (refine z10 fun K hK=>?_;simp only [go_sem];apply hK;clear hK K))
   refine z13 rfl (fun hb=>?_) (fun hb=>?_)
   ·have hlt:i<k.days.length:=by simpa using hb
    have hw:IntKind.i64.wrap ((i:Int) + 1)=((i + 1:Nat):Int):=by rw [z17 (by omega)];simp
    have gd:=z289 hlt
    have hni:¬ ((i:Int)<0):=by omega
    obtain ⟨x,hx⟩:∃ x,k.days[i]?=some x:=⟨_,List.getElem?_eq_getElem hlt⟩
    have e:k.days.getD i []=x:=by rw [List.getD_eq_getElem?_getD,hx];rfl
    have hx3:=(hg.groups x (List.mem_of_getElem? hx)).1
    rw [e] at gd
    have hnx:endsTo k true (i + 1)=endsTo k true i++[x.map fun g=>g.count.hi]:=by
     rw [endsTo,endsTo,List.take_add_one,hx]
     simp [endRow]
    obtain ⟨E,hE⟩:∃ E,E=endsTo k true i:=⟨_,rfl⟩
    have hEl:E.length + 1≤549755813888:=by
     rw [hE,endsTo]
     simp
     omega
    rw [← hE] at hnx ⊢
    have hap:listRows E++[[.sl (intRows (x.map fun g=>g.count.hi))]]=listRows (endsTo k true (i + 1)):=by rw [hnx];simp [listRows]
    repeat (first | refine nx ?_ | (refine z10 fun K hK=>?_;simp only [go_sem];apply hK;clear hK K))
    refine z15 (fun (j:Nat)=>[(8,.d (.i (j:Int))),(7,.own 39)]) (fun j=>[(39,some (.arr 3 1 (intRows ((x.take j).map fun g=>g.count.hi))))]) (fun j=>j≤x.length) (fun j=>x.length - j) 0 ?_ (Nat.zero_le _) ?_
    ·simp only [go_sem]
     refine z53 [39] ?_ ?_ rfl rfl <;> simp [lessT,lessM,lessB,AV.less,intRows]
    ·intro j hj
     simp only [go_sem]
     repeat (first | refine nx ?_ | (refine z10 fun K hK=>?_;simp only [go_sem,gd,hni];apply hK;clear hK K))
     refine z13 rfl (fun hb=>?_) (fun hb=>?_)
     ·have hltj:j<x.length:=by simpa using hb
      have hwj:IntKind.i64.wrap ((j:Int) + 1)=((j + 1:Nat):Int):=by rw [z17 (by omega)];simp
      obtain ⟨y,hy⟩:∃ y,x[j]?=some y:=⟨_,List.getElem?_eq_getElem hltj⟩
      have gy:=z80 hy
      rw [Diners.row] at gy
      have hnj:¬ ((j:Int)<0):=by omega
      have hs:intRows ((x.take j).map fun g=>g.count.hi)++[[.i y.count.hi]]=intRows ((x.take (j + 1)).map fun g=>g.count.hi):=by rw [List.take_add_one,hy];simp [intRows]
      have hsl:((x.take j).map fun g=>g.count.hi).length + 1≤549755813888:=by simp;omega
      obtain ⟨R,hR⟩:∃ R,R=(x.take j).map fun g=>g.count.hi:=⟨_,rfl⟩
      rw [← hR] at hs hsl ⊢
      repeat (first | refine z12 rfl ?_ | refine z11 rfl ?_ | refine nx ?_ | (refine z10 fun K hK=>?_;simp only [go_sem,gd,hni,gy,hnj,hs,hsl,hwj];apply hK;clear hK K))
      refine ⟨rfl,j + 1,?_,hltj,by omega⟩
      refine weA ?_ ?_ <;> simp
      all_goals first | done | rfl | trace_state
     ·have he:j=x.length:=by (have:¬ j<x.length:=by simpa using hb);omega
      subst he
      rw [List.take_length]
      repeat refine nx ?_
      refine z20 [39] ?_
      simp only [go_sem]
      repeat (first | refine nx ?_ | (refine z10 fun K hK=>?_;simp only [go_sem,hEl,z26,hap,hw];apply hK;clear hK K))
      refine ⟨rfl,i + 1,?_,hlt,by omega⟩
      refine weA ?_ ?_ <;> simp
      all_goals first | done | rfl | trace_state
   ·have he:i=k.days.length:=by (have:¬ i<k.days.length:=by simpa using hb);omega
    subst he
    have ha:endsTo k true k.days.length=endsL k true:=by rw [endsTo,List.take_length];rfl
    rw [ha]
    repeat (first | refine nx ?_ | (refine z10 fun K hK=>?_;simp only [go_sem];apply hK;clear hK K))
    simp only [go_sem]
end Go.Ab
namespace Go.Ab
open Go.RowKit Go.Proofs
set_option maxHeartbeats 16000000
set_option maxRecDepth 20000
attribute [local irreducible] WalkL Walk
theorem zf67 (k:Kitchen) (hg:KitGood k) (M C:List (List Int)) (hM:shapedB (menuB k) M k.days=true) (hC:shapedB countB C k.days=true) :
  Fn Tryz.prog 67 [.agg k.cells,.sl (listRows M),.sl (listRows C)] (.tup [.sl (intRows (endSt k M (cntOf C)).1),.i (endSt k M (cntOf C)).2,.i ((lastD k M (cntOf C) M.length:Nat):Int)]):=by
 have hbl:=hg.batches
 have hdy:=hg.days
 have hMl:=z54 hM
 have hCl:=z54 hC
 have hc:=z1063 hg hC
 obtain ⟨cnt,hcnt⟩:∃ cnt,cnt=cntOf C:=⟨_,rfl⟩
 rw [← hcnt] at hc ⊢
 have ha0:(amtK k).take 0=[]:=rfl
 refine z14 83 Tryz.call67 Tryz.func67 rfl (by decide) fun J=>?_
 simp only [go_sem,St.start,Tryz.ntmps67,Tryz.results67,Kitchen.cells]
 repeat (first | refine nx ?_ | (refine z10 fun K hK=>?_;simp only [go_sem];apply hK;clear hK K))
 refine z15 (fun (i:Nat)=>[(9,.d (.i (i:Int))),(6,.own 29)]) (fun i=>[(29,some (.arr 3 1 (intRows ((amtK k).take i))))]) (fun i=>i≤k.batches.length) (fun i=>k.batches.length - i) 0 ?_ (Nat.zero_le _) ?_
 ·simp only [go_sem]
  refine z53 [29] ?_ ?_ rfl rfl <;> simp [lessT,lessM,lessB,AV.less,intRows]
 ·intro i hi
  simp only [go_sem]
  repeat (first | refine nx ?_ | (refine z10 fun K hK=>?_;simp only [go_sem];apply hK;clear hK K))
  refine z13 rfl (fun hb2=>?_) (fun hb2=>?_)
  ·have hlt:i<k.batches.length:=by simpa using hb2
   have hw:IntKind.i64.wrap ((i:Int) + 1)=((i + 1:Nat):Int):=by rw [z17 (by omega)];simp
   have gb:=z167 hlt
   rw [Batch.row] at gb
   have hni:¬ ((i:Int)<0):=by omega
   obtain ⟨A,hA⟩:∃ A,A=(amtK k).take i:=⟨_,rfl⟩
   have hAl:A.length≤10:=by rw [hA];simp;omega
   have hn:A.length + 1≤549755813888:=by omega
   have e1:(amtK k).take (i + 1)=A++[(batAt k i).amount]:=by
    obtain ⟨x,hx⟩:∃ x,k.batches[i]?=some x:=⟨_,List.getElem?_eq_getElem hlt⟩
    have hx2:(amtK k)[i]?=some x.amount:=by simp [amtK,hx]
    rw [List.take_add_one,hx2,← hA,batAt,List.getD,hx]
    rfl
   have s1:intRows A++[[.i (batAt k i).amount]]=intRows ((amtK k).take (i + 1)):=by rw [e1];simp [intRows]
   rw [← hA]
   repeat (first | refine nx ?_ | (refine z10 fun K hK=>?_;simp only [go_sem,gb,hni,hn,s1,hw];apply hK;clear hK K))
   refine ⟨rfl,i + 1,?_,hlt,by omega⟩
   refine weA ?_ ?_ <;> simp
   all_goals first | done | rfl | trace_state
  ·have he:i=k.batches.length:=by (have:¬ i<k.batches.length:=by simpa using hb2);omega
   subst he
   have e1:(amtK k).take k.batches.length=amtK k:=by rw [amtK,List.take_of_length_le (by simp)]
   rw [e1]
   repeat (first | refine nx ?_ | (refine z10 fun K hK=>?_;simp only [go_sem];apply hK;clear hK K))
   refine z15 (fun (q:Nat × List Int × Int)=>[(10,.d (.i (q.1:Int))),(7,.d (.i q.2.2)),(6,.own 29)]) (fun q=>[(29,some (.arr 3 1 (intRows q.2.1)))]) (fun q=>q.1≤M.length∧runSt k M cnt q.1=some q.2) (fun q=>M.length - q.1) (0,amtK k,0) ?_ ⟨Nat.zero_le _,rfl⟩ ?_
   ·simp only [go_sem]
    refine weA ?_ ?_ <;> simp
    all_goals first | done | rfl | trace_state
   ·rintro ⟨d,l,w⟩ ⟨hd,hrun⟩
    dsimp only at hd hrun
    obtain ⟨hla,hll,hw0,hw1⟩:=z223 hg hM hc d (l,w) hd hrun
    dsimp only at hla hll hw0 hw1
    have hsome:(runSt k M cnt d).isSome=true:=by rw [hrun];rfl
    simp only [go_sem]
    repeat (first | refine nx ?_ | (refine z10 fun K hK=>?_;simp only [go_sem,z26];apply hK;clear hK K))
    refine z13 rfl (fun hb2=>?_) (fun hb2=>?_)
    ·have hlt:d<M.length:=by simpa using hb2
     have hw:IntKind.i64.wrap ((d:Int) + 1)=((d + 1:Nat):Int):=by rw [z17 (by omega)];simp
     have hst0:clrTo k (d:Int) l w 0=(l,w):=rfl
     obtain ⟨R,hR⟩:∃ R,R=clrTo k (d:Int) l w:=⟨_,rfl⟩
     have hRl:∀ j,(R j).1.length=l.length:=by rw [hR];exact z45 k _ l w
     have hRo:∀ j,AmtOk (R j).1∧w≤(R j).2∧(R j).2≤w + 1000000 * j:=by rw [hR];exact z55 hla
     have hRs:∀ j,R (j + 1)=if (batAt k j).last<(d:Int) then ((R j).1.set j 0,(R j).2 + getI (R j).1 (j:Int)) else R j:=by rw [hR];exact fun j=>rfl
     rw [← hR] at hst0
     repeat (first | refine nx ?_ | (refine z10 fun K hK=>?_;simp only [go_sem];apply hK;clear hK K))
     refine z15 (fun (i:Nat)=>[(11,.d (.i (i:Int))),(7,.d (.i (R i).2))]) (fun i=>[(29,some (.arr 3 1 (intRows (R i).1)))]) (fun i=>i≤k.batches.length) (fun i=>k.batches.length - i) 0 ?_ (Nat.zero_le _) ?_
     ·rw [hst0]
      simp only [go_sem]
      refine weA ?_ ?_ <;> simp
      all_goals first | done | rfl | trace_state
     ·intro i hi
      have hAl:=hRl i
      obtain ⟨hok,hw1',hw2'⟩:=hRo i
      have hnx:=hRs i
      obtain ⟨⟨A,v⟩,hAv⟩:∃ p,R i=p:=⟨_,rfl⟩
      rw [hAv] at hAl hok hw1' hw2' hnx ⊢
      dsimp only at hAl hok hw1' hw2' hnx ⊢
      have hAk:A.length=k.batches.length:=by omega
      simp only [go_sem]
      repeat (first | refine nx ?_ | (refine z10 fun K hK=>?_;simp only [go_sem,z36,hAk];apply hK;clear hK K))
      refine z13 rfl (fun hb3=>?_) (fun hb3=>?_)
      ·have hlti:i<k.batches.length:=by simpa using hb3
       have hwi:IntKind.i64.wrap ((i:Int) + 1)=((i + 1:Nat):Int):=by rw [z17 (by omega)];simp
       have gb:=z167 hlti
       rw [Batch.row] at gb
       have hni:¬ ((i:Int)<0):=by omega
       have hiA:i<A.length:=by omega
       have gA:=z27 hiA
       have hgA:=hok.get (i:Int)
       have e1:IntKind.i64.wrap (v + getI A (i:Int))=v + getI A (i:Int):=z17 (by omega)
       have su:(intRows A).set i [.i 0]=intRows (A.set i 0):=z51 A i 0
       by_cases hq:(batAt k i).last<(d:Int)
       ·rw [if_pos hq] at hnx
        have dd:decide ((batAt k i).last<(d:Int))=true:=decide_eq_true hq
        repeat (first | refine z12 rfl ?_ | refine z11 rfl ?_ | refine nx ?_ | (refine z10 fun K hK=>?_;simp only [go_sem,gb,hni,dd,hiA,gA,e1,su,hwi];apply hK;clear hK K))
        refine ⟨rfl,i + 1,?_,hlti,by omega⟩
        rw [hnx]
        refine weA ?_ ?_ <;> simp
        all_goals first | done | rfl | trace_state
       ·rw [if_neg hq] at hnx
        have dd:decide ((batAt k i).last<(d:Int))=false:=decide_eq_false hq
        repeat (first | refine z12 rfl ?_ | refine z11 rfl ?_ | refine nx ?_ | (refine z10 fun K hK=>?_;simp only [go_sem,gb,hni,dd,hwi];apply hK;clear hK K))
        refine ⟨rfl,i + 1,?_,hlti,by omega⟩
        rw [hnx]
        refine weA ?_ ?_ <;> simp
        all_goals first | done | rfl | trace_state
      ·have he:i=k.batches.length:=by (have:¬ i<k.batches.length:=by simpa using hb3);omega
       subst he
       have hclr:clrD k d (l,w)=(A,v):=by rw [← hAv,hR];rfl
       obtain ⟨r,hr⟩:∃ r,M[d]?=some r:=⟨_,List.getElem?_eq_getElem hlt⟩
       obtain ⟨_,hrl,hdo⟩:=z147 hg hM hc hr
       obtain ⟨c,hcd⟩:∃ c,C[d]?=some c:=⟨_,List.getElem?_eq_getElem (by omega)⟩
       obtain ⟨x,hx,hxo⟩:=z170 hC hcd
       have ex:k.days.getD d []=x:=by rw [List.getD,hx];rfl
       have hcl:=z99 hxo
       have ec:cnt d=fun (g:Nat)=>getI c (g:Int):=by funext g;rw [hcnt,cntOf,List.getD_eq_getElem?_getD,hcd];rfl
       have hMr:M.getD d []=r:=by rw [List.getD,hr];rfl
       have hCr:C.getD d []=c:=by rw [List.getD,hcd];rfl
       rw [ec] at hdo
       have h85:=zf103 k hg A r c (by omega) hok hdo (by rw [hrl,ex,hcl])
       have hnd0:needD k M cnt d=needL k r fun (g:Nat)=>getI c (g:Int):=by rw [needD,hMr,ec]
       have hstep:runSt k M cnt (d + 1)=(takeTo k (ordK k) (needL k r fun (g:Nat)=>getI c (g:Int)) A k.allerg.length).map fun l=>(l,v):=by rw [runSt,hrun,← hnd0];dsimp only;rw [hclr]
       have gm:=z652 (M:=M) (j:=d) hlt
       have gc:=z652 (M:=C) (j:=d) (by omega)
       rw [← hMr,← hCr] at h85 hstep
       have hnd:¬ ((d:Int)<0):=by omega
       obtain ⟨Cl,hCl2⟩:∃ X,X=A:=⟨_,rfl⟩
       rw [← hCl2] at h85 hstep hclr ⊢
       repeat refine nx ?_
       refine z20 [29] ?_
       simp only [go_sem]
       cases htk:takeTo k (ordK k) (needL k (M.getD d []) fun (g:Nat)=>getI (C.getD d []) (g:Int)) Cl k.allerg.length with
       | none =>
        rw [htk] at h85 hstep
        simp only [ServeC] at h85
        rw [Kitchen.cells] at h85
        have hnone:runSt k M cnt (d + 1)=none:=hstep
        have eD:lastD k M cnt M.length=d:=z260 hsome hnone (by omega)
        have eE:endSt k M cnt=(Cl,v):=by
         rw [endSt,eD,hrun,if_pos hlt]
         exact hclr
        rw [eD,eE]
        refine z97 (fun b=>[(60,bif b 0 then .undef else .agg [.d (.sl (intRows k.allerg)),.d (.sl (batRows k.batches)),.d (.sl (dishRows k.dishes)),.d (.sl (dayRows k.days))]),(61,bif b 1 then .undef else .d (.sl (intRows Cl))),(62,bif b 2 then .undef else .d (.sl (listRows M))),(63,bif b 3 then .undef else .d (.i (d:Int))),
          (64,bif b 4 then .undef else .d (.ptr [.sl (intRows (M.getD d []))] 0)),(65,bif b 5 then .undef else .d (.sl (intRows (M.getD d [])))),(66,bif b 6 then .undef else .d (.sl (listRows C))),(67,bif b 7 then .undef else .d (.i (d:Int))),(68,bif b 8 then .undef else .d (.ptr [.sl (intRows (C.getD d []))] 0)),(69,bif b 9 then .undef else .d (.sl (intRows (C.getD d [])))),(70,bif b 10 then .undef else .d (.tup [.sl (intRows Cl),.bool false])),(59,bif b 11 then .undef else .d (.tup [.sl (intRows Cl),.bool false])),(71,bif b 12 then .undef else .d (.sl (intRows Cl))),(72,bif b 13 then .undef else .d (.bool false)),(12,bif b 14 then .undef else .d (.sl (intRows Cl))),(13,bif b 15 then .undef else .d (.bool false))])
         (fun b=>[]) 16 (by kernel_rfl) (by kernel_rfl) (by kernel_rfl) (by decide) ?_ ?_ (Weak.refl _) ?_
        ·simp only [go_sem]
        ·refine ⟨?_,?_,?_,?_,?_,?_,?_,?_,?_,?_,?_,?_,?_,?_,?_,?_,trivial⟩
         all_goals
          intro b hbm hdm _
          simp only [depsM,Region.binds,true_and,and_true,Nat.zero_add,Nat.reduceAdd,reduceCtorEq,forall_const] at hdm
          refine ⟨rfl,rfl,?_⟩
          simp only [go_sem,hbm,hdm,gm,gc,hnd]
         ·refine ⟨_,.given (hf:=h85) (hd:=rfl) (ha:=rfl),?_⟩
          simp only [go_sem,hbm,hdm]
        ·intro K hK
         simp only [go_sem]
         refine hK _ _ ?_
         clear hK K
         repeat (first | refine z12 rfl ?_ | refine z11 rfl ?_ | refine nx ?_ | (refine z10 fun K hK=>?_;simp only [go_sem];apply hK;clear hK K))
         simp only [go_sem]
       | some c' =>
        rw [htk] at h85 hstep
        simp only [ServeC] at h85
        rw [Kitchen.cells] at h85
        have hsm:runSt k M cnt (d + 1)=some (c',v):=hstep
        refine z97 (fun b=>[(60,bif b 0 then .undef else .agg [.d (.sl (intRows k.allerg)),.d (.sl (batRows k.batches)),.d (.sl (dishRows k.dishes)),.d (.sl (dayRows k.days))]),(61,bif b 1 then .undef else .d (.sl (intRows Cl))),(62,bif b 2 then .undef else .d (.sl (listRows M))),(63,bif b 3 then .undef else .d (.i (d:Int))),
          (64,bif b 4 then .undef else .d (.ptr [.sl (intRows (M.getD d []))] 0)),(65,bif b 5 then .undef else .d (.sl (intRows (M.getD d [])))),(66,bif b 6 then .undef else .d (.sl (listRows C))),(67,bif b 7 then .undef else .d (.i (d:Int))),(68,bif b 8 then .undef else .d (.ptr [.sl (intRows (C.getD d []))] 0)),(69,bif b 9 then .undef else .d (.sl (intRows (C.getD d [])))),(70,bif b 10 then .undef else .tup [.own 21,.d (.bool true)]),(59,bif b 11 then .undef else .tup [.own 21,.d (.bool true)]),(71,bif b 12 then .undef else .own 21),(72,bif b 13 then .undef else .d (.bool true)),(12,bif b 14 then .undef else .own 21),(13,bif b 15 then .undef else .d (.bool true))])
         (fun b=>[(21,bif b 10 then none else some (.arr 3 1 (intRows c')))]) 16 (by kernel_rfl) (by kernel_rfl) (by kernel_rfl) (by decide) ?_ ?_ (Weak.refl _) ?_
        ·simp only [go_sem]
        ·refine ⟨?_,?_,?_,?_,?_,?_,?_,?_,?_,?_,?_,?_,?_,?_,?_,?_,trivial⟩
         all_goals
          intro b hbm hdm _
          simp only [depsM,Region.binds,true_and,and_true,Nat.zero_add,Nat.reduceAdd,reduceCtorEq,forall_const] at hdm
          refine ⟨rfl,rfl,?_⟩
          simp only [go_sem,hbm,hdm,gm,gc,hnd]
         ·refine ⟨_,.made (news:=[21]) (hf:=h85) (hd:=rfl) (hn:=by decide) (hl:=rfl) (hnew:=rfl) (hx:=rfl),?_⟩
          simp only [go_sem,List.map_cons,List.map_nil,hbm,hdm]
        ·intro K hK
         simp only [go_sem]
         refine hK _ _ ?_
         clear hK K
         repeat refine nx ?_
         refine z10 fun K hK=>?_
         simp only [go_sem]
         apply hK
         clear hK K
         refine z11 rfl ?_
         refine z270 21 29 ?_
         simp only [go_sem]
         repeat (first | refine nx ?_ | (refine z10 fun K hK=>?_;simp only [go_sem,hw];apply hK;clear hK K))
         refine ⟨rfl,(d + 1,c',v),?_,⟨hlt,hsm⟩,by dsimp only;omega⟩
         refine weA ?_ ?_ <;> simp
         all_goals first | done | rfl | trace_state
    ·have he:d=M.length:=by (have:¬ d<M.length:=by simpa using hb2);omega
     subst he
     have eD:lastD k M cnt M.length=M.length:=z228 hsome
     have eE:endSt k M cnt=(l,w):=by
      rw [endSt,eD,hrun,if_neg (Nat.lt_irrefl _)]
      rfl
     rw [eD,eE]
     repeat (first | refine nx ?_ | (refine z10 fun K hK=>?_;simp only [go_sem,z26];apply hK;clear hK K))
     simp only [go_sem]
end Go.Ab
namespace Go.Ab
open Go.RowKit Go.Proofs
set_option maxHeartbeats 16000000
set_option maxRecDepth 20000
attribute [local irreducible] WalkL Walk
def pickC (k:Kitchen) (b:Bool) (d g:Nat):Int:=if b=true then (dinAt k d g).count.hi else (dinAt k d g).count.lo
theorem z1185 {k:Kitchen} {b:Bool} {d g:Nat} (hd:d<k.days.length) (hg:g<(k.days.getD d []).length):cntOf (endsL k b) d g=pickC k b d g:=by
 obtain ⟨x,hx⟩:∃ x,k.days[d]?=some x:=⟨_,List.getElem?_eq_getElem hd⟩
 have e:k.days.getD d []=x:=by rw [List.getD_eq_getElem?_getD,hx];rfl
 rw [e] at hg
 obtain ⟨y,hy⟩:∃ y,x[g]?=some y:=⟨_,List.getElem?_eq_getElem hg⟩
 have e2:dinAt k d g=y:=by rw [dinAt,e,List.getD_eq_getElem?_getD,hy];rfl
 rw [cntOf,endsL,List.getD_eq_getElem?_getD,List.getElem?_map,hx,Option.map_some,Option.getD_some,z231,endRow,List.getD_eq_getElem?_getD,List.getElem?_map,hy,pickC,e2]
 rfl
theorem z357 {k:Kitchen} (hg:KitGood k) (b:Bool):shapedB countB (endsL k b) k.days=true:=by
 refine z648 (by simp [endsL]) fun i r x h1 h2=>?_
 rw [endsL,List.getElem?_map,h2] at h1
 cases h1
 refine z881 (by simp [endRow]) fun g n y h3 h4=>?_
 rw [endRow,List.getElem?_map,h4] at h3
 cases h3
 have:=((hg.groups x (List.mem_of_getElem? h2)).2 y (List.mem_of_getElem? h4)).2
 refine z24.2 ?_
 cases b <;> dsimp only [Bool.false_eq_true,if_true,if_false] <;> simp only [if_true,if_false,Bool.false_eq_true] <;> omega
theorem z336 {k:Kitchen} {ds:List Int} {c c':Nat→Int} {good:Nat}:∀ n,(∀ g,g<n→c g=c' g)→needG k ds c good n=needG k ds c' good n
 | 0,_=>rfl
 | n + 1,h=>by rw [needG,needG,z336 n fun g hg=>h g (by omega),h n (by omega)]
theorem z851 {k:Kitchen} {M:List (List Int)} {c c':Nat→Nat→Int} {d:Nat} (h:∀ g,g<(M.getD d []).length→c d g=c' d g):needD k M c d=needD k M c' d:=by
 rw [needD,needD,needL,needL]
 exact List.map_congr_left fun x _=>z336 _ h
theorem z202 {k:Kitchen} {M:List (List Int)} {c c':Nat→Nat→Int}:∀ d,(∀ e g,e<d→g<(M.getD e []).length→c e g=c' e g)→runSt k M c d=runSt k M c' d
 | 0,_=>rfl
 | d + 1,h=>by rw [runSt,runSt,z202 d fun e g he=>h e g (by omega),z851 fun g hg=>h d g (by omega) hg]
theorem z343 {k:Kitchen} {M:List (List Int)} {c c':Nat→Nat→Int}:∀ d,(∀ e g,e<d→g<(M.getD e []).length→c e g=c' e g)→lastD k M c d=lastD k M c' d
 | 0,_=>rfl
 | d + 1,h=>by rw [lastD,lastD,z202 (d + 1) h,z343 d fun e g he=>h e g (by omega)]
theorem z1060 {k:Kitchen} (hg:KitGood k) {M:List (List Int)} (hM:shapedB (menuB k) M k.days=true) (b:Bool) :
  lastD k M (cntOf (endsL k b)) M.length=lastD k M (pickC k b) M.length∧endSt k M (cntOf (endsL k b))=endSt k M (pickC k b):=by
 have key:∀ e g,e<M.length→g<(M.getD e []).length→cntOf (endsL k b) e g=pickC k b e g:=fun e g he hgl=>by
  obtain ⟨r,hr⟩:∃ r,M[e]?=some r:=⟨_,List.getElem?_eq_getElem he⟩
  obtain ⟨h1,h2,_⟩:=z147 hg hM (z1063 hg (z357 hg b)) hr
  rw [List.getD_eq_getElem?_getD,hr,Option.getD_some,h2] at hgl
  exact z1185 h1 hgl
 have hl:=z343 (k:=k) M.length key
 refine ⟨hl,?_⟩
 rw [endSt,endSt,hl,z202 (k:=k) _ fun e g he=>key e g (by have:=z888 k M (pickC k b) M.length;omega)]
theorem z1165 (k:Kitchen) (M:List (List Int)):lastD k M (pickC k true) M.length=mostK k M:=rfl
theorem zf35 (k:Kitchen) (hg:KitGood k) (M:List (List Int)) (hM:shapedB (menuB k) M k.days=true) (b:Bool):Fn Tryz.prog 35 [.agg k.cells,.sl (listRows M),.bool b] (.i ((lastD k M (pickC k b) M.length:Nat):Int)):=by
 have h59:=zf68 k hg b
 have h58:=zf67 k hg M (endsL k b) hM (z357 hg b)
 rw [(z1060 hg hM b).1] at h58
 obtain ⟨E,hE⟩:∃ E,E=endSt k M (cntOf (endsL k b)):=⟨_,rfl⟩
 rw [← hE] at h58
 rw [Kitchen.cells] at h58 h59
 refine z14 21 Tryz.call35 Tryz.func35 rfl (by decide) fun J=>?_
 simp only [go_sem,St.start,Tryz.ntmps35,Tryz.results35,Kitchen.cells]
 repeat (first | refine nx ?_ | (refine z10 fun K hK=>?_;simp only [go_sem];apply hK;clear hK K))
 refine z16 (by kernel_rfl) (by kernel_rfl) fun K hK=>?_
 simp only [go_sem]
 refine ⟨_,.fn (hf:=h59) (hd:=rfl) (hr:=.inr rfl),?_⟩
 simp only [go_sem]
 refine ⟨_,.fn (hf:=h58) (hd:=rfl) (hr:=.inr rfl),?_⟩
 simp only [go_sem]
 refine ⟨by kernel_rfl,hK _ ?_⟩
 clear hK K
 repeat (first | refine nx ?_ | (refine z10 fun K hK=>?_;simp only [go_sem];apply hK;clear hK K))
 simp only [go_sem]
end Go.Ab
namespace Go.Ab
open Go.RowKit Go.Proofs
set_option maxHeartbeats 16000000
set_option maxRecDepth 20000
attribute [local irreducible] WalkL Walk
end Go.Ab
/- What a function makes of its own,told as a deep value. -/
namespace Go.Ab
open Go.RowKit
theorem FnG.deep {P:Program} {f:FuncId} {args:List DV} {r:AV} {m1:List Blk} {d:DV} (h:FnG P f [] [] (args.map AV.d) r m1) (hr:reify (m1.map some) Ab.deep r=some d):Fn P f args d :=
 ⟨h.enters,fun w own vs hb hh hd=>(h.calls (ltU w.heap.size) w own (fun _=>none) vs hb (fun _ h=>h)
   ⟨fun n b h=>by simp at h,fun n h=>by simp at h,fun n k b z l c z' l' c' h=>by simp at h,fun n b z l c h=>by simp at h⟩
   (hh.less fun b hb=>hb.elim id fun ⟨_,_,_,_,h⟩=>by simp at h) (by simpa using hd.1) (fun i x v hx hv=>by
    simp only [List.getElem?_map,Option.map_eq_some_iff] at hx
    obtain ⟨y,hy,rfl⟩:=hx
    refine .d ((hd.2 i y v hy hv).goes fun b o u h1 h2=>⟨fun hc=>h1 (hc.elim id fun ⟨_,_,_,_,h⟩=>by simp at h),h2⟩))).mono fun en w' hq=>by
  obtain ⟨v,μ1,he,hv,hm,hk,_⟩:=hq
  exact ⟨v,he,z68 hm own (fun b hb=>.inl hb) (fun _=>True) (fun n b z l c _ hμ=>(hm.base n b z l c hμ).2.2) Ab.deep r v d hv hr (fun _ _=>trivial) (.inl fun _ _ _ _ _ _=>trivial),hk.keep.below.to⟩⟩
end Go.Ab
namespace Go.Ab
open Go.RowKit Go.Proofs
set_option maxHeartbeats 16000000
set_option maxRecDepth 20000
attribute [local irreducible] WalkL Walk
theorem zf11 (k:Kitchen) (hs:KitSmall k):Fn Tryz.prog 11 [.agg k.cells] (.agg k.cells):=(zf11m k hs).deep rfl
theorem zf12 (M:List (List Int)) (hM:M.length<2 ^ 30) (hMr:∀ r ∈ M,r.length<2 ^ 30):Fn Tryz.prog 12 [.sl (listRows M)] (.sl (listRows M)):=by
 refine z14 21 Tryz.call12 Tryz.func12 rfl (by decide) fun J=>?_
 simp only [go_sem,St.start,Tryz.ntmps12,Tryz.results12]
 repeat (first | refine nx ?_ | (refine z10 fun K hK=>?_;simp only [go_sem];apply hK;clear hK K))
 refine z15 (fun (i:Nat)=>[(4,.d (.i (i:Int))),(3,.own 19)]) (fun i=>[(19,some (.arr 22 1 (listRows (M.take i))))]) (fun i=>i≤M.length) (fun i=>M.length - i) 0 ?_ (Nat.zero_le _) ?_
 ·simp only [go_sem]
  refine z53 [19] ?_ ?_ rfl rfl <;> simp [lessT,lessM,lessB,AV.less,listRows]
 ·intro i hi
  simp only [go_sem]
  repeat (first | refine nx ?_ | (refine z10 fun K hK=>?_;simp only [go_sem,z26];apply hK;clear hK K))
  refine z13 rfl (fun hb=>?_) (fun hb=>?_)
  ·have hlt:i<M.length:=by simpa using hb
   have hw:IntKind.i64.wrap ((i:Int) + 1)=((i + 1:Nat):Int):=by rw [z17 (by omega)];simp
   obtain ⟨x,hx⟩:∃ x,M[i]?=some x:=⟨_,List.getElem?_eq_getElem hlt⟩
   have g1:=z40 hx
   have hni:¬ ((i:Int)<0):=by omega
   have hxn:=hMr x (List.mem_of_getElem? hx)
   have e3:x.length≤549755813888:=by omega
   have hh2:headIs 1 (intRows x)=true:=by cases x <;> rfl
   have hlt2:(M.take i).length + 1≤549755813888:=by rw [List.length_take];omega
   have htk:listRows (M.take i)++[[.sl (intRows x)]]=listRows (M.take (i + 1)):=by rw [List.take_add_one,hx];simp [listRows]
   repeat (first | refine nx ?_ | (refine z10 fun K hK=>?_;simp only [go_sem,g1,hni,e3,hh2,hlt2,htk,z26,z36,List.nil_append,List.length_nil,Nat.zero_add,hw];apply hK;clear hK K))
   refine ⟨rfl,i + 1,?_,hlt,by omega⟩
   refine weA ?_ ?_ <;> simp
   all_goals first | done | rfl | trace_state
  ·have he:i=M.length:=by (have:¬ i<M.length:=by simpa using hb);omega
   subst he
   rw [List.take_length]
   repeat (first | refine nx ?_ | (refine z10 fun K hK=>?_;simp only [go_sem];apply hK;clear hK K))
   simp only [go_sem]
end Go.Ab
namespace Go.Ab
open Go.RowKit Go.Proofs
set_option maxHeartbeats 16000000
set_option maxRecDepth 20000
attribute [local irreducible] WalkL Walk
theorem zf14 (k:Kitchen) (M:List (List Int)) (s:Supply) (c n:Int) (hs:KitSmall k) (hM:M.length<2 ^ 30) (hMr:∀ r ∈ M,r.length<2 ^ 30) (hss:SuppSmall s) :
  Fn Tryz.prog 14 [.agg k.cells,.sl (listRows M),.agg s.cells,.i c,.i n] (.tup [.i (enoughP k M s c n).1,.bool (enoughP k M s c n).2.1,.i (enoughP k M s c n).2.2]):=by
 have h21:=zf21 k M hs hM hMr
 have h34:=zf34 s c n hss
 unfold enoughP
 obtain ⟨⟨a,b,e⟩,hP⟩:∃ x,nextP s c n=x:=⟨_,rfl⟩
 rw [hP] at h34 ⊢
 rw [Supply.cells] at h34 ⊢
 dsimp only at h34 ⊢
 by_cases h0:openK k M=0
 ·obtain ⟨hg,hsh⟩:=z661 h0
  have h35:=zf35 k hg M hsh true
  rw [z1165] at h35
  obtain ⟨hi,hhi⟩:∃ x,x=mostK k M:=⟨_,rfl⟩
  rw [← hhi] at h35 ⊢
  rw [if_pos h0]
  rw [h0] at h21
  rw [Kitchen.cells] at h21 h35 ⊢
  by_cases h1:e=0
  ·rw [if_pos h1]
   subst h1
   refine z14 42 Tryz.call14 Tryz.func14 rfl (by decide) fun J=>?_
   simp only [go_sem,St.start,Tryz.ntmps14,Tryz.results14]
   repeat (first | refine z12 rfl ?_ | refine z11 rfl ?_ | refine nx ?_ | (refine z10 fun K hK=>?_;simp only [go_sem];(repeat (first | (refine ⟨_,.lent (hf:=h21) (hd:=rfl) (hr:=rfl),?_⟩;simp only [go_sem]) | (refine ⟨_,.lent (hf:=h34) (hd:=rfl) (hr:=rfl),?_⟩;simp only [go_sem]) | (refine ⟨_,.lent (hf:=h35) (hd:=rfl) (hr:=rfl),?_⟩;simp only [go_sem]) | (refine ⟨_,.given (hf:=h21) (hd:=rfl) (ha:=rfl),?_⟩;simp only [go_sem]) | (refine ⟨_,.given (hf:=h34) (hd:=rfl) (ha:=rfl),?_⟩;simp only [go_sem]) | (refine ⟨_,.given (hf:=h35) (hd:=rfl) (ha:=rfl),?_⟩;simp only [go_sem])));apply hK;clear hK K))
   simp only [go_sem,daysP]
   try rfl
  ·rw [if_neg h1]
   have hz:(e != 0)=true:=by simpa using h1
   refine z14 42 Tryz.call14 Tryz.func14 rfl (by decide) fun J=>?_
   simp only [go_sem,St.start,Tryz.ntmps14,Tryz.results14]
   repeat (first | refine z12 rfl ?_ | refine z11 rfl ?_ | refine nx ?_ | (refine z10 fun K hK=>?_;simp only [go_sem,hz];(repeat (first | (refine ⟨_,.lent (hf:=h21) (hd:=rfl) (hr:=rfl),?_⟩;simp only [go_sem,hz]) | (refine ⟨_,.lent (hf:=h34) (hd:=rfl) (hr:=rfl),?_⟩;simp only [go_sem,hz]) | (refine ⟨_,.given (hf:=h21) (hd:=rfl) (ha:=rfl),?_⟩;simp only [go_sem,hz]) | (refine ⟨_,.given (hf:=h34) (hd:=rfl) (ha:=rfl),?_⟩;simp only [go_sem,hz])));apply hK;clear hK K))
   simp only [go_sem]
 ·rw [if_neg h0]
  have hz:(openK k M != 0)=true:=by simpa using h0
  obtain ⟨e2,he2⟩:∃ e,e=openK k M:=⟨_,rfl⟩
  rw [← he2] at h21 hz ⊢
  rw [Kitchen.cells] at h21 ⊢
  refine z14 42 Tryz.call14 Tryz.func14 rfl (by decide) fun J=>?_
  simp only [go_sem,St.start,Tryz.ntmps14,Tryz.results14]
  repeat (first | refine z12 rfl ?_ | refine z11 rfl ?_ | refine nx ?_ | (refine z10 fun K hK=>?_;simp only [go_sem,hz];(repeat (first | (refine ⟨_,.lent (hf:=h21) (hd:=rfl) (hr:=rfl),?_⟩;simp only [go_sem,hz]) | (refine ⟨_,.given (hf:=h21) (hd:=rfl) (ha:=rfl),?_⟩;simp only [go_sem,hz])));apply hK;clear hK K))
  simp only [go_sem]
def waitCells (s:Supply) (c n:Int):List DV:=[.sl (scenRows s.scen),.sl (sightRows s.seen),.i s.stock,.i s.reserve,.i s.room,.i s.use.lo,.i s.use.hi,.sl (carrRows s.carr),.i c,.i n]
theorem zf3 (k:Kitchen) (M:List (List Int)) (s:Supply) (c n:Int) (hk:KitSmall k) (hM:M.length<2 ^ 30) (hMr:∀ r ∈ M,r.length<2 ^ 30) (hs:SuppSmall s) :
  Fn Tryz.prog 3 [.agg k.cells,.sl (listRows M),.agg (waitCells s c n)] (.bool true):=by
 have h6:=zf6 k hk
 have h7:=zf7 M hM
 have h8:=zf8 s hs
 have h9:=zf9
 rw [Supply.cells] at h8
 cases q1:far7 k with
 | true =>
  rw [q1] at h6
  rw [Kitchen.cells] at h6 ⊢
  refine z14 70 Tryz.call3 Tryz.func3 rfl (by decide) fun J=>?_
  simp only [go_sem,St.start,Tryz.ntmps3,Tryz.results3,waitCells]
  repeat (first | refine z12 rfl ?_ | refine z11 rfl ?_ | refine nx ?_ | (refine z10 fun K hK=>?_;simp only [go_sem];(repeat (first | (refine ⟨_,.lent (hf:=h6) (hd:=rfl) (hr:=rfl),?_⟩;simp only [go_sem]) | (refine ⟨_,.lent (hf:=h9) (hd:=rfl) (hr:=rfl),?_⟩;simp only [go_sem]) | (refine ⟨_,.given (hf:=h6) (hd:=rfl) (ha:=rfl),?_⟩;simp only [go_sem]) | (refine ⟨_,.given (hf:=h9) (hd:=rfl) (ha:=rfl),?_⟩;simp only [go_sem])));apply hK;clear hK K))
  simp only [go_sem]
 | false =>
 rw [q1] at h6
 cases q2:farRows M with
 | true =>
  rw [q2] at h7
  rw [Kitchen.cells] at h6 ⊢
  refine z14 70 Tryz.call3 Tryz.func3 rfl (by decide) fun J=>?_
  simp only [go_sem,St.start,Tryz.ntmps3,Tryz.results3,waitCells]
  repeat (first | refine z12 rfl ?_ | refine z11 rfl ?_ | refine nx ?_ | (refine z10 fun K hK=>?_;simp only [go_sem];(repeat (first | (refine ⟨_,.lent (hf:=h6) (hd:=rfl) (hr:=rfl),?_⟩;simp only [go_sem]) | (refine ⟨_,.lent (hf:=h7) (hd:=rfl) (hr:=rfl),?_⟩;simp only [go_sem]) | (refine ⟨_,.lent (hf:=h9) (hd:=rfl) (hr:=rfl),?_⟩;simp only [go_sem]) | (refine ⟨_,.given (hf:=h6) (hd:=rfl) (ha:=rfl),?_⟩;simp only [go_sem]) | (refine ⟨_,.given (hf:=h7) (hd:=rfl) (ha:=rfl),?_⟩;simp only [go_sem]) | (refine ⟨_,.given (hf:=h9) (hd:=rfl) (ha:=rfl),?_⟩;simp only [go_sem])));apply hK;clear hK K))
  simp only [go_sem]
 | false =>
 rw [q2] at h7
 cases q3:farSup s with
 | true =>
  rw [q3] at h8
  rw [Kitchen.cells] at h6 ⊢
  refine z14 70 Tryz.call3 Tryz.func3 rfl (by decide) fun J=>?_
  simp only [go_sem,St.start,Tryz.ntmps3,Tryz.results3,waitCells]
  repeat (first | refine z12 rfl ?_ | refine z11 rfl ?_ | refine nx ?_ | (refine z10 fun K hK=>?_;simp only [go_sem];(repeat (first | (refine ⟨_,.lent (hf:=h6) (hd:=rfl) (hr:=rfl),?_⟩;simp only [go_sem]) | (refine ⟨_,.lent (hf:=h7) (hd:=rfl) (hr:=rfl),?_⟩;simp only [go_sem]) | (refine ⟨_,.lent (hf:=h8) (hd:=rfl) (hr:=rfl),?_⟩;simp only [go_sem]) | (refine ⟨_,.lent (hf:=h9) (hd:=rfl) (hr:=rfl),?_⟩;simp only [go_sem]) | (refine ⟨_,.given (hf:=h6) (hd:=rfl) (ha:=rfl),?_⟩;simp only [go_sem]) | (refine ⟨_,.given (hf:=h7) (hd:=rfl) (ha:=rfl),?_⟩;simp only [go_sem]) | (refine ⟨_,.given (hf:=h8) (hd:=rfl) (ha:=rfl),?_⟩;simp only [go_sem]) | (refine ⟨_,.given (hf:=h9) (hd:=rfl) (ha:=rfl),?_⟩;simp only [go_sem])));apply hK;clear hK K))
  simp only [go_sem]
 | false =>
 rw [q3] at h8
 have h10:=zf10 k M s c n hk hM hMr hs
 have h14:=zf14 k M s c n hk hM hMr hs
 have h11:=zf11 k hk
 have h12:=zf12 M hM hMr
 have h13:=zf13 s hs
 obtain ⟨⟨a,b,e⟩,hP⟩:∃ x,enoughP k M s c n=x:=⟨_,rfl⟩
 rw [hP] at h10 h14
 dsimp only at h10 h14
 have n1:(a == a)=true:=by simp
 have n2:(b == b)=true:=by simp
 have n3:(e == e)=true:=by simp
 rw [Supply.cells] at h10 h14 h13
 rw [Kitchen.cells] at h6 h10 h14 h11 ⊢
 refine z14 70 Tryz.call3 Tryz.func3 rfl (by decide) fun J=>?_
 simp only [go_sem,St.start,Tryz.ntmps3,Tryz.results3,waitCells]
 repeat (first | refine z12 rfl ?_ | refine z11 rfl ?_ | refine nx ?_ | (refine z10 fun K hK=>?_;simp only [go_sem];(repeat (first | (refine ⟨_,.lent (hf:=h6) (hd:=rfl) (hr:=rfl),?_⟩;simp only [go_sem]) | (refine ⟨_,.lent (hf:=h7) (hd:=rfl) (hr:=rfl),?_⟩;simp only [go_sem]) | (refine ⟨_,.lent (hf:=h8) (hd:=rfl) (hr:=rfl),?_⟩;simp only [go_sem]) | (refine ⟨_,.given (hf:=h6) (hd:=rfl) (ha:=rfl),?_⟩;simp only [go_sem]) | (refine ⟨_,.given (hf:=h7) (hd:=rfl) (ha:=rfl),?_⟩;simp only [go_sem]) | (refine ⟨_,.given (hf:=h8) (hd:=rfl) (ha:=rfl),?_⟩;simp only [go_sem])));apply hK;clear hK K))
 repeat refine nx ?_
 refine z16 (by kernel_rfl) (by kernel_rfl) fun K hK=>?_
 simp only [go_sem]
 refine ⟨_,.fn (hf:=h11) (hd:=rfl) (hr:=.inr rfl),?_⟩
 simp only [go_sem]
 refine ⟨_,.fn (hf:=h12) (hd:=rfl) (hr:=.inr rfl),?_⟩
 simp only [go_sem]
 refine ⟨_,.fn (hf:=h13) (hd:=rfl) (hr:=.inr rfl),?_⟩
 simp only [go_sem]
 refine ⟨_,.fn (hf:=h10) (hd:=rfl) (hr:=.inr rfl),?_⟩
 simp only [go_sem]
 refine ⟨by kernel_rfl,hK _ ?_⟩
 clear hK K
 repeat (first | refine z12 rfl ?_ | refine z11 rfl ?_ | refine nx ?_ | (refine z10 fun K hK=>?_;simp only [go_sem,n1,n2,n3];(repeat (first | (refine ⟨_,.lent (hf:=h14) (hd:=rfl) (hr:=rfl),?_⟩;simp only [go_sem,n1,n2,n3]) | (refine ⟨_,.lent (hf:=h9) (hd:=rfl) (hr:=rfl),?_⟩;simp only [go_sem,n1,n2,n3]) | (refine ⟨_,.given (hf:=h14) (hd:=rfl) (ha:=rfl),?_⟩;simp only [go_sem,n1,n2,n3]) | (refine ⟨_,.given (hf:=h9) (hd:=rfl) (ha:=rfl),?_⟩;simp only [go_sem,n1,n2,n3])));apply hK;clear hK K))
 simp only [go_sem]
end Go.Ab
