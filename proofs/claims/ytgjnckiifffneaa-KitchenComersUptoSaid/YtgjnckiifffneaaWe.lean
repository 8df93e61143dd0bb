/- A walk engine over abstract states, and the contracts of the functions that the statement reaches: part 5. -/
import Derived.Test.YtgjnckiifffneaaWd
set_option linter.unusedVariables false
set_option linter.unusedSimpArgs false
set_option linter.unnecessarySimpa false
namespace Go.Ab
open Go.RowKit Go.Proofs
set_option maxHeartbeats 8000000
set_option maxRecDepth 20000
attribute [local irreducible] WalkL Walk
theorem z798 (n lo hi:Int):Fn Try.prog 51 [.i n,.i lo,.i hi] (.bool (withinB n lo hi)):=by
 unfold withinB
 refine z18 15 Try.call51 Try.func51 rfl (by decide) fun J=>?_
 simp only [go_sem,St.start,Try.ntmps51,Try.results51]
 cases q:decide (lo≤n)
 ·repeat (first | refine nx ?_ | (refine z10 fun K hK=>?_;simp only [go_sem,q];apply hK;clear hK K))
  simp only [go_sem,Bool.false_and]
 ·repeat (first | refine nx ?_ | (refine z10 fun K hK=>?_;simp only [go_sem,q];apply hK;clear hK K))
  simp only [go_sem,Bool.true_and]
theorem z1090 (k:Kitchen) (b:Batch) (hg:k.allerg.length<2 ^ 30):Fn Try.prog 60 [.agg k.cells,.agg b.row] (.bool (batchB k.allerg.length b)):=by
 have h1:=z798 b.good 0 ((k.allerg.length:Int) - 1)
 have h2:=z798 b.amount 0 1000000
 have h3:=z798 b.last 0 30
 have w:IntKind.i64.wrap ((k.allerg.length:Int) - 1)=(k.allerg.length:Int) - 1:=z17 (by omega)
 unfold batchB
 obtain ⟨b1,e1⟩:∃ x,x=withinB b.good 0 ((k.allerg.length:Int) - 1):=⟨_,rfl⟩
 obtain ⟨b2,e2⟩:∃ x,x=withinB b.amount 0 1000000:=⟨_,rfl⟩
 obtain ⟨b3,e3⟩:∃ x,x=withinB b.last 0 30:=⟨_,rfl⟩
 rw [← e1] at h1 ⊢
 rw [← e2] at h2 ⊢
 rw [← e3] at h3 ⊢
 refine z18 22 Try.call60 Try.func60 rfl (by decide) fun J=>?_
 simp only [go_sem,St.start,Try.ntmps60,Try.results60,Batch.row,Kitchen.cells]
 cases b1 <;> cases b2
 all_goals
  repeat (first | refine nx ?_ | (refine z10 fun K hK=>?_;simp only [go_sem,w];(repeat (first | (refine ⟨_,.lent (hf:=h1) (hd:=rfl) (hr:=rfl),?_⟩;simp only [go_sem,w]) | (refine ⟨_,.lent (hf:=h2) (hd:=rfl) (hr:=rfl),?_⟩;simp only [go_sem,w]) | (refine ⟨_,.lent (hf:=h3) (hd:=rfl) (hr:=rfl),?_⟩;simp only [go_sem,w]) | (refine ⟨_,.given (hf:=h1) (hd:=rfl) (ha:=rfl),?_⟩;simp only [go_sem,w]) | (refine ⟨_,.given (hf:=h2) (hd:=rfl) (ha:=rfl),?_⟩;simp only [go_sem,w]) | (refine ⟨_,.given (hf:=h3) (hd:=rfl) (ha:=rfl),?_⟩;simp only [go_sem,w])));apply hK;clear hK K))
  simp only [go_sem,Bool.false_and,Bool.true_and]
theorem z1089 (k:Kitchen) (d:Dish) (hg:k.allerg.length<2 ^ 30) (hd:d.needs.length<2 ^ 30):Fn Try.prog 61 [.agg k.cells,.agg d.row] (.bool (dishB k.allerg.length d)):=by
 unfold dishB
 obtain ⟨R,hR⟩:∃ R,R=(((d.needs.length:Int) == (k.allerg.length:Int)) && d.needs.all needB):=⟨_,rfl⟩
 rw [← hR]
 obtain ⟨N,hN⟩:∃ N,N=d.needs:=⟨_,rfl⟩
 rw [← hN] at hd hR
 refine z18 27 Try.call61 Try.func61 rfl (by decide) fun J=>?_
 simp only [go_sem,St.start,Try.ntmps61,Try.results61,Dish.row,Kitchen.cells]
 rw [← hN]
 repeat (first | refine nx ?_ | (refine z10 fun K hK=>?_;simp only [go_sem];apply hK;clear hK K))
 refine z15 (fun (i:Nat)=>[(5,.d (.i (i:Int)))]) (fun _=>[]) (fun i=>i≤N.length∧N.all needB=(N.drop i).all needB) (fun i=>N.length - i) 0 ?_ ⟨Nat.zero_le _,rfl⟩ ?_
 ·simp only [go_sem]
  refine weA ?_ ?_ <;> simp
 ·rintro i ⟨hi,z47⟩
  simp only [go_sem]
  repeat (first | refine nx ?_ | (refine z10 fun K hK=>?_;simp only [go_sem];apply hK;clear hK K))
  refine z14 rfl (fun hb=>?_) (fun hb=>?_)
  ·have hlt:i<N.length:=by simpa using hb
   have hw:IntKind.i64.wrap ((i:Int) + 1)=((i + 1:Nat):Int):=by rw [z17 (by omega)];simp
   obtain ⟨x,hx⟩:∃ x,N[i]?=some x:=⟨_,List.getElem?_eq_getElem hlt⟩
   have g1:=z35 hx
   have hni:¬ ((i:Int)<0):=by omega
   have hc:=z798 x 0 5000
   rw [z29 hx,List.all_cons] at z47
   cases q:needB x
   ·rw [q,Bool.false_and] at z47
    rw [z47,Bool.and_false] at hR
    rw [needB] at q
    rw [q] at hc
    repeat (first | refine z12 rfl ?_ | refine z11 rfl ?_ | refine nx ?_ | (refine z10 fun K hK=>?_;simp only [go_sem,g1,hni];(repeat (first | (refine ⟨_,.lent (hf:=hc) (hd:=rfl) (hr:=rfl),?_⟩;simp only [go_sem,g1,hni]) | (refine ⟨_,.given (hf:=hc) (hd:=rfl) (ha:=rfl),?_⟩;simp only [go_sem,g1,hni])));apply hK;clear hK K))
    simp only [go_sem,hR]
   ·rw [q,Bool.true_and] at z47
    rw [needB] at q
    rw [q] at hc
    repeat (first | refine z12 rfl ?_ | refine z11 rfl ?_ | refine nx ?_ | (refine z10 fun K hK=>?_;simp only [go_sem,g1,hni,hw];(repeat (first | (refine ⟨_,.lent (hf:=hc) (hd:=rfl) (hr:=rfl),?_⟩;simp only [go_sem,g1,hni,hw]) | (refine ⟨_,.given (hf:=hc) (hd:=rfl) (ha:=rfl),?_⟩;simp only [go_sem,g1,hni,hw])));apply hK;clear hK K))
    refine ⟨rfl,i + 1,?_,⟨hlt,z47⟩,by omega⟩
    refine weA ?_ ?_ <;> simp
  ·have he:i=N.length:=by (have:¬ i<N.length:=by simpa using hb);omega
   subst he
   rw [List.drop_length,List.all_nil] at z47
   rw [z47,Bool.and_true] at hR
   repeat (first | refine nx ?_ | (refine z10 fun K hK=>?_;simp only [go_sem];apply hK;clear hK K))
   simp only [go_sem,hR]
def badK1 (k:Kitchen):Bool:=!withinB (k.allerg.length:Int) 1 6 || (decide ((k.batches.length:Int) > 10) || (!withinB (k.dishes.length:Int) 1 5 || !withinB (k.days.length:Int) 1 6))
theorem z934 {k:Kitchen} (h:badKit k=true):kitE k=70:=by rw [kitE,h];rfl
theorem z854 {k:Kitchen} (h:badKit k=false):kitE k=0:=by rw [kitE,h];rfl
def badG (g:Diners):Bool:=!withinB g.no 0 255 || (!withinB g.count.lo 0 g.count.hi || decide (g.count.hi > 100))
theorem z863 (g:Diners):groupB g=!badG g:=by
 unfold groupB badG setB withinB
 rw [Bool.eq_iff_iff]
 simp
 intro _ _
 exact and_assoc.symm
theorem z1056 (k:Kitchen) (hs:KitSmall k):Fn Try.prog 32 [.agg k.cells] (.i (kitE k)):=by
 have a1:=hs.allerg
 have h1:=z798 (k.allerg.length:Int) 1 6
 have h5:=z798 (k.dishes.length:Int) 1 5
 have h7:=z798 (k.days.length:Int) 1 6
 have h92:=fun b=>z1090 k b a1
 have h93:=fun d hd=>z1089 k d a1 hd
 have a2:=hs.batches
 have a3:=hs.dishes
 have a4:=hs.needs
 have a5:=hs.days
 have a6:=hs.groups
 have kB:badKit k=(badK1 k || (!k.allerg.all setB || (!k.batches.all (batchB k.allerg.length) || (!k.dishes.all (dishB k.allerg.length) || !k.days.all dayB)))):=by
  unfold badKit badK1
  cases withinB (k.allerg.length:Int) 1 6 <;> cases decide ((k.batches.length:Int) > 10) <;> cases withinB (k.dishes.length:Int) 1 5 <;> cases withinB (k.days.length:Int) 1 6 <;> simp
 have kb:=@z934 k
 have kg:=@z854 k
 rw [kB] at kb kg
 obtain ⟨E,hE⟩:∃ E,E=kitE k:=⟨_,rfl⟩
 rw [← hE] at kb kg ⊢
 rw [Kitchen.cells] at h92 h93
 refine z18 130 Try.call32 Try.func32 rfl (by decide) fun J=>?_
 simp only [go_sem,St.start,Try.ntmps32,Try.results32,Kitchen.cells]
 repeat (first | refine nx ?_ | (refine z10 fun K hK=>?_;simp only [go_sem];apply hK;clear hK K))
 refine z131 [(33,.d (.bool (badK1 k)))] [] ?_ ?_
 ·refine z10 fun K hK=>?_
  simp only [go_sem]
  refine ⟨_,.lent (hf:=h1) (hd:=rfl) (hr:=rfl),?_⟩
  simp only [go_sem]
  by_cases ho0:(!withinB (k.allerg.length:Int) 1 6)=true
  ·simp only [go_sem,ho0]
   apply hK
   clear hK K
   refine z34 ?_
   refine z23 ?_
   refine ⟨rfl,?_⟩
   rw [show (badK1 k)=(true) from by simp [badK1,ho0]]
   simp only [go_sem]
   refine weA ?_ ?_ <;> simp
  ·simp only [go_sem,ho0]
   by_cases ho1:(decide ((k.batches.length:Int) > 10))=true
   ·simp only [go_sem,ho0,ho1]
    apply hK
    clear hK K
    refine z34 ?_
    refine z23 ?_
    refine ⟨rfl,?_⟩
    rw [show (badK1 k)=(true) from by simp [badK1,ho0,ho1]]
    simp only [go_sem]
    refine weA ?_ ?_ <;> simp
   ·simp only [go_sem,ho0,ho1]
    refine ⟨_,.lent (hf:=h5) (hd:=rfl) (hr:=rfl),?_⟩
    simp only [go_sem,ho0,ho1]
    by_cases ho2:(!withinB (k.dishes.length:Int) 1 5)=true
    ·simp only [go_sem,ho0,ho1,ho2]
     apply hK
     clear hK K
     refine z34 ?_
     refine z23 ?_
     refine ⟨rfl,?_⟩
     rw [show (badK1 k)=(true) from by simp [badK1,ho0,ho1,ho2]]
     simp only [go_sem]
     refine weA ?_ ?_ <;> simp
    ·simp only [go_sem,ho0,ho1,ho2]
     refine ⟨_,.lent (hf:=h7) (hd:=rfl) (hr:=rfl),?_⟩
     simp only [go_sem,ho0,ho1,ho2]
     apply hK
     clear hK K
     refine z34 ?_
     refine z23 ?_
     refine ⟨rfl,?_⟩
     rw [show (badK1 k)=(!withinB (k.days.length:Int) 1 6) from by simp [badK1,ho0,ho1,ho2]]
     simp only [go_sem]
     refine weA ?_ ?_ <;> simp
 simp only [go_sem]
 repeat (first | refine nx ?_ | (refine z10 fun K hK=>?_;simp only [go_sem];apply hK;clear hK K))
 refine z14 rfl (fun hc=>?_) (fun hc=>?_)
 ·rw [hc,Bool.true_or] at kb
  have kb:=kb rfl
  subst kb
  rw [hc]
  repeat (first | refine nx ?_ | (refine z10 fun K hK=>?_;simp only [go_sem];apply hK;clear hK K))
  simp only [go_sem,if_true]
 ·rw [hc,Bool.false_or] at kb kg
  rw [hc]
  repeat (first | refine nx ?_ | (refine z10 fun K hK=>?_;simp only [go_sem];apply hK;clear hK K))
  refine z15 (fun (i:Nat)=>[(3,.d (.i (i:Int)))]) (fun _=>[]) (fun i=>i≤k.allerg.length∧k.allerg.all (setB)=(k.allerg.drop i).all (setB)) (fun i=>k.allerg.length - i) 0 ?_ ⟨Nat.zero_le _,rfl⟩ ?_
  ·simp only [go_sem]
   refine weA ?_ ?_ <;> simp
  ·rintro i ⟨hi,z47⟩
   simp only [go_sem]
   repeat (first | refine nx ?_ | (refine z10 fun K hK=>?_;simp only [go_sem];apply hK;clear hK K))
   refine z14 rfl (fun hb=>?_) (fun hb=>?_)
   ·have hlt:i<k.allerg.length:=by simpa using hb
    have hw:IntKind.i64.wrap ((i:Int) + 1)=((i + 1:Nat):Int):=by rw [z17 (by omega)];simp
    obtain ⟨x,hx⟩:∃ x,k.allerg[i]?=some x:=⟨_,List.getElem?_eq_getElem hlt⟩
    have g1:=z35 hx
    have hni:¬ ((i:Int)<0):=by omega
    have hc:=z798 x 0 255
    rw [z29 hx,List.all_cons] at z47
    cases q:(setB) x
    ·rw [q,Bool.false_and] at z47
     rw [z47] at kb
     have kb:=kb rfl
     subst kb
     rw [setB] at q
     rw [q] at hc
     repeat (first | refine z12 rfl ?_ | refine z11 rfl ?_ | refine nx ?_ | (refine z10 fun K hK=>?_;simp only [go_sem,g1,hni];(repeat (first | (refine ⟨_,.lent (hf:=hc) (hd:=rfl) (hr:=rfl),?_⟩;simp only [go_sem,g1,hni]) | (refine ⟨_,.given (hf:=hc) (hd:=rfl) (ha:=rfl),?_⟩;simp only [go_sem,g1,hni])));apply hK;clear hK K))
     simp only [go_sem]
    ·rw [q,Bool.true_and] at z47
     rw [setB] at q
     rw [q] at hc
     repeat (first | refine z12 rfl ?_ | refine z11 rfl ?_ | refine nx ?_ | (refine z10 fun K hK=>?_;simp only [go_sem,g1,hni,hw];(repeat (first | (refine ⟨_,.lent (hf:=hc) (hd:=rfl) (hr:=rfl),?_⟩;simp only [go_sem,g1,hni,hw]) | (refine ⟨_,.given (hf:=hc) (hd:=rfl) (ha:=rfl),?_⟩;simp only [go_sem,g1,hni,hw])));apply hK;clear hK K))
     refine ⟨rfl,i + 1,?_,⟨hlt,z47⟩,by omega⟩
     refine weA ?_ ?_ <;> simp
   ·have he:i=k.allerg.length:=by (have:¬ i<k.allerg.length:=by simpa using hb);omega
    subst he
    rw [List.drop_length,List.all_nil] at z47
    rw [z47,Bool.not_true,Bool.false_or] at kb kg
    clear z47
    repeat (first | refine nx ?_ | (refine z10 fun K hK=>?_;simp only [go_sem];apply hK;clear hK K))
    refine z15 (fun (i:Nat)=>[(4,.d (.i (i:Int)))]) (fun _=>[]) (fun i=>i≤k.batches.length∧k.batches.all (batchB k.allerg.length)=(k.batches.drop i).all (batchB k.allerg.length)) (fun i=>k.batches.length - i) 0 ?_ ⟨Nat.zero_le _,rfl⟩ ?_
    ·simp only [go_sem]
     refine weA ?_ ?_ <;> simp
    ·rintro i ⟨hi,z47⟩
     simp only [go_sem]
     repeat (first | refine nx ?_ | (refine z10 fun K hK=>?_;simp only [go_sem];apply hK;clear hK K))
     refine z14 rfl (fun hb=>?_) (fun hb=>?_)
     ·have hlt:i<k.batches.length:=by simpa using hb
      have hw:IntKind.i64.wrap ((i:Int) + 1)=((i + 1:Nat):Int):=by rw [z17 (by omega)];simp
      obtain ⟨x,hx⟩:∃ x,k.batches[i]?=some x:=⟨_,List.getElem?_eq_getElem hlt⟩
      have g1:=z243 hx
      have hni:¬ ((i:Int)<0):=by omega
      have hc:=h92 x
      rw [Batch.row] at g1 hc
      rw [z29 hx,List.all_cons] at z47
      cases q:(batchB k.allerg.length) x
      ·rw [q,Bool.false_and] at z47
       rw [z47] at kb
       have kb:=kb rfl
       subst kb
       skip
       rw [q] at hc
       repeat (first | refine nx ?_ | (refine z10 fun K hK=>?_;simp only [go_sem];apply hK;clear hK K))
       refine z16 (by kernel_rfl) (by kernel_rfl) fun K hK=>?_
       simp only [go_sem,g1,hni]
       refine ⟨_,.fn (hf:=hc) (hd:=rfl) (hr:=.inl rfl),?_⟩
       simp only [go_sem]
       refine ⟨by kernel_rfl,hK _ ?_⟩
       clear hK K
       repeat (first | refine z12 rfl ?_ | refine z11 rfl ?_ | refine nx ?_ | (refine z10 fun K hK=>?_;simp only [go_sem];apply hK;clear hK K))
       simp only [go_sem]
      ·rw [q,Bool.true_and] at z47
       skip
       rw [q] at hc
       repeat (first | refine nx ?_ | (refine z10 fun K hK=>?_;simp only [go_sem];apply hK;clear hK K))
       refine z16 (by kernel_rfl) (by kernel_rfl) fun K hK=>?_
       simp only [go_sem,g1,hni]
       refine ⟨_,.fn (hf:=hc) (hd:=rfl) (hr:=.inl rfl),?_⟩
       simp only [go_sem]
       refine ⟨by kernel_rfl,hK _ ?_⟩
       clear hK K
       repeat (first | refine z12 rfl ?_ | refine z11 rfl ?_ | refine nx ?_ | (refine z10 fun K hK=>?_;simp only [go_sem,hw];apply hK;clear hK K))
       refine ⟨rfl,i + 1,?_,⟨hlt,z47⟩,by omega⟩
       refine weA ?_ ?_ <;> simp
     ·have he:i=k.batches.length:=by (have:¬ i<k.batches.length:=by simpa using hb);omega
      subst he
      rw [List.drop_length,List.all_nil] at z47
      rw [z47,Bool.not_true,Bool.false_or] at kb kg
      clear z47
      repeat (first | refine nx ?_ | (refine z10 fun K hK=>?_;simp only [go_sem];apply hK;clear hK K))
      refine z15 (fun (i:Nat)=>[(5,.d (.i (i:Int)))]) (fun _=>[]) (fun i=>i≤k.dishes.length∧k.dishes.all (dishB k.allerg.length)=(k.dishes.drop i).all (dishB k.allerg.length)) (fun i=>k.dishes.length - i) 0 ?_ ⟨Nat.zero_le _,rfl⟩ ?_
      ·simp only [go_sem]
       refine weA ?_ ?_ <;> simp
      ·rintro i ⟨hi,z47⟩
       simp only [go_sem]
       repeat (first | refine nx ?_ | (refine z10 fun K hK=>?_;simp only [go_sem];apply hK;clear hK K))
       refine z14 rfl (fun hb=>?_) (fun hb=>?_)
       ·have hlt:i<k.dishes.length:=by simpa using hb
        have hw:IntKind.i64.wrap ((i:Int) + 1)=((i + 1:Nat):Int):=by rw [z17 (by omega)];simp
        obtain ⟨x,hx⟩:∃ x,k.dishes[i]?=some x:=⟨_,List.getElem?_eq_getElem hlt⟩
        have g1:=z142 hx
        have hni:¬ ((i:Int)<0):=by omega
        have hc:=h93 x (a4 x (List.mem_of_getElem? hx))
        rw [Dish.row] at g1 hc
        rw [z29 hx,List.all_cons] at z47
        cases q:(dishB k.allerg.length) x
        ·rw [q,Bool.false_and] at z47
         rw [z47] at kb
         have kb:=kb rfl
         subst kb
         skip
         rw [q] at hc
         repeat (first | refine nx ?_ | (refine z10 fun K hK=>?_;simp only [go_sem];apply hK;clear hK K))
         refine z16 (by kernel_rfl) (by kernel_rfl) fun K hK=>?_
         simp only [go_sem,g1,hni]
         refine ⟨_,.fn (hf:=hc) (hd:=rfl) (hr:=.inl rfl),?_⟩
         simp only [go_sem]
         refine ⟨by kernel_rfl,hK _ ?_⟩
         clear hK K
         repeat (first | refine z12 rfl ?_ | refine z11 rfl ?_ | refine nx ?_ | (refine z10 fun K hK=>?_;simp only [go_sem];apply hK;clear hK K))
         simp only [go_sem]
        ·rw [q,Bool.true_and] at z47
         skip
         rw [q] at hc
         repeat (first | refine nx ?_ | (refine z10 fun K hK=>?_;simp only [go_sem];apply hK;clear hK K))
         refine z16 (by kernel_rfl) (by kernel_rfl) fun K hK=>?_
         simp only [go_sem,g1,hni]
         refine ⟨_,.fn (hf:=hc) (hd:=rfl) (hr:=.inl rfl),?_⟩
         simp only [go_sem]
         refine ⟨by kernel_rfl,hK _ ?_⟩
         clear hK K
         repeat (first | refine z12 rfl ?_ | refine z11 rfl ?_ | refine nx ?_ | (refine z10 fun K hK=>?_;simp only [go_sem,hw];apply hK;clear hK K))
         refine ⟨rfl,i + 1,?_,⟨hlt,z47⟩,by omega⟩
         refine weA ?_ ?_ <;> simp
       ·have he:i=k.dishes.length:=by (have:¬ i<k.dishes.length:=by simpa using hb);omega
        subst he
        rw [List.drop_length,List.all_nil] at z47
        rw [z47,Bool.not_true,Bool.false_or] at kb kg
        clear z47
        repeat (first | refine nx ?_ | (refine z10 fun K hK=>?_;simp only [go_sem];apply hK;clear hK K))
        refine z15 (fun (i:Nat)=>[(6,.d (.i (i:Int))),(7,.undef),(8,.undef)]) (fun _=>[]) (fun i=>i≤k.days.length∧k.days.all dayB=(k.days.drop i).all dayB) (fun i=>k.days.length - i) 0 ?_ ⟨Nat.zero_le _,rfl⟩ ?_
        ·simp only [go_sem]
         refine weA ?_ ?_ <;> simp
        ·rintro i ⟨hi,z47⟩
         simp only [go_sem]
         repeat (first | refine nx ?_ | (refine z10 fun K hK=>?_;simp only [go_sem];apply hK;clear hK K))
         refine z14 rfl (fun hb=>?_) (fun hb=>?_)
         ·have hlt:i<k.days.length:=by simpa using hb
          have hw:IntKind.i64.wrap ((i:Int) + 1)=((i + 1:Nat):Int):=by rw [z17 (by omega)];simp
          obtain ⟨x,hx⟩:∃ x,k.days[i]?=some x:=⟨_,List.getElem?_eq_getElem hlt⟩
          have g1:=z73 hx
          have hni:¬ ((i:Int)<0):=by omega
          have hxl:=a6 x (List.mem_of_getElem? hx)
          rw [z29 hx,List.all_cons,dayB] at z47
          cases q:decide ((x.length:Int) > 3)
          ·have q2:decide ((x.length:Int)≤3)=true:=by simp at q ⊢;omega
           rw [q2,Bool.true_and] at z47
           have hx3:x.length≤3:=by simp at q2;omega
           repeat (first | refine z12 rfl ?_ | refine z11 rfl ?_ | refine nx ?_ | (refine z10 fun K hK=>?_;simp only [go_sem,g1,hni,q];apply hK;clear hK K))
           refine z15 (fun (j:Nat)=>[(7,.d (.i (j:Int))),(8,.undef)]) (fun _=>[]) (fun j=>j≤x.length∧k.days.all dayB=((x.drop j).all groupB && (k.days.drop (i + 1)).all dayB)) (fun j=>x.length - j) 0 ?_ ⟨Nat.zero_le _,z47⟩ ?_
           ·simp only [go_sem]
            refine weA ?_ ?_ <;> simp
           ·rintro j ⟨hj,hallj⟩
            simp only [go_sem]
            repeat (first | refine nx ?_ | (refine z10 fun K hK=>?_;simp only [go_sem,g1,hni];apply hK;clear hK K))
            refine z14 rfl (fun hb=>?_) (fun hb=>?_)
            ·have hltj:j<x.length:=by simpa using hb
             have hwj:IntKind.i64.wrap ((j:Int) + 1)=((j + 1:Nat):Int):=by rw [z17 (by omega)];simp
             obtain ⟨y,hy⟩:∃ y,x[j]?=some y:=⟨_,List.getElem?_eq_getElem hltj⟩
             have g3:=z84 hy
             rw [Diners.row] at g3
             have hnj:¬ ((j:Int)<0):=by omega
             have c1:=z798 y.no 0 255
             have c2:=z798 y.count.lo 0 y.count.hi
             rw [z29 hy,List.all_cons,z863] at hallj
             repeat (first | refine nx ?_ | (refine z10 fun K hK=>?_;simp only [go_sem,g1,hni,g3,hnj];apply hK;clear hK K))
             refine z131 [(129,.d (.bool (badG y)))] [] ?_ ?_
             ·refine z10 fun K hK=>?_
              simp only [go_sem]
              refine ⟨_,.lent (hf:=c1) (hd:=rfl) (hr:=rfl),?_⟩
              simp only [go_sem]
              by_cases ho0:(!withinB y.no 0 255)=true
              ·simp only [go_sem,ho0]
               apply hK
               clear hK K
               refine z34 ?_
               refine z23 ?_
               refine ⟨rfl,?_⟩
               rw [show (badG y)=(true) from by simp [badG,ho0]]
               simp only [go_sem]
               refine weA ?_ ?_ <;> simp
              ·simp only [go_sem,ho0]
               refine ⟨_,.lent (hf:=c2) (hd:=rfl) (hr:=rfl),?_⟩
               simp only [go_sem,ho0]
               by_cases ho1:(!withinB y.count.lo 0 y.count.hi)=true
               ·simp only [go_sem,ho0,ho1]
                apply hK
                clear hK K
                refine z34 ?_
                refine z23 ?_
                refine ⟨rfl,?_⟩
                rw [show (badG y)=(true) from by simp [badG,ho0,ho1]]
                simp only [go_sem]
                refine weA ?_ ?_ <;> simp
               ·simp only [go_sem,ho0,ho1]
                apply hK
                clear hK K
                refine z34 ?_
                refine z23 ?_
                refine ⟨rfl,?_⟩
                rw [show (badG y)=(decide (y.count.hi > 100)) from by simp [badG,ho0,ho1]]
                simp only [go_sem]
                refine weA ?_ ?_ <;> simp
             simp only [go_sem]
             repeat (first | refine nx ?_ | (refine z10 fun K hK=>?_;simp only [go_sem];apply hK;clear hK K))
             refine z14 rfl (fun hc=>?_) (fun hc=>?_)
             ·rw [hc,Bool.not_true,Bool.false_and,Bool.false_and] at hallj
              rw [hallj] at kb
              have kb:=kb rfl
              subst kb
              rw [hc]
              repeat (first | refine nx ?_ | (refine z10 fun K hK=>?_;simp only [go_sem];apply hK;clear hK K))
              simp only [go_sem,if_true]
             ·rw [hc,Bool.not_false,Bool.true_and] at hallj
              rw [hc]
              repeat (first | refine nx ?_ | (refine z10 fun K hK=>?_;simp only [go_sem,hwj];apply hK;clear hK K))
              refine ⟨rfl,j + 1,?_,⟨hltj,hallj⟩,by omega⟩
              refine weA ?_ ?_ <;> simp
            ·have he:j=x.length:=by (have:¬ j<x.length:=by simpa using hb);omega
             subst he
             rw [List.drop_length,List.all_nil,Bool.true_and] at hallj
             repeat (first | refine nx ?_ | (refine z10 fun K hK=>?_;simp only [go_sem,hw];apply hK;clear hK K))
             refine ⟨rfl,i + 1,?_,⟨hlt,hallj⟩,by omega⟩
             refine weA ?_ ?_ <;> simp
          ·have q2:decide ((x.length:Int)≤3)=false:=by simp at q ⊢;omega
           rw [q2,Bool.false_and,Bool.false_and] at z47
           rw [z47] at kb
           have kb:=kb rfl
           subst kb
           repeat (first | refine z12 rfl ?_ | refine z11 rfl ?_ | refine nx ?_ | (refine z10 fun K hK=>?_;simp only [go_sem,g1,hni,q];apply hK;clear hK K))
           simp only [go_sem]
         ·have he:i=k.days.length:=by (have:¬ i<k.days.length:=by simpa using hb);omega
          subst he
          rw [List.drop_length,List.all_nil] at z47
          rw [z47] at kg
          have kg:=kg rfl
          subst kg
          repeat (first | refine nx ?_ | (refine z10 fun K hK=>?_;simp only [go_sem];apply hK;clear hK K))
          simp only [go_sem]
end Go.Ab
namespace Go.Ab
open Go.RowKit Go.Proofs
set_option maxHeartbeats 8000000
set_option maxRecDepth 20000
attribute [local irreducible] WalkL Walk
theorem z1097 (k:Kitchen) (hg:KitGood k) (n:Nat) (no:Int) (hn:n<k.dishes.length):Fn Try.prog 34 [.agg k.cells,.i (n:Int),.i no] (.bool (suitsB k (n:Int) no)):=by
 have gd:=z679 hn
 have hl:=z452 hg hn
 have hgo:=hg.goods
 have hnn:¬ ((n:Int)<0):=by omega
 unfold suitsB
 obtain ⟨N,hN⟩:∃ N,N=(dishAt k (n:Int)).needs:=⟨_,rfl⟩
 rw [← hN] at gd hl ⊢
 refine z18 35 Try.call34 Try.func34 rfl (by decide) fun J=>?_
 simp only [go_sem,St.start,Try.ntmps34,Try.results34,Kitchen.cells]
 repeat (first | refine nx ?_ | (refine z10 fun K hK=>?_;simp only [go_sem];apply hK;clear hK K))
 refine z15 (fun (i:Nat)=>[(7,.d (.i (i:Int)))]) (fun _=>[]) (fun i=>i≤k.allerg.length∧suitTo k.allerg N no i=true) (fun i=>k.allerg.length - i) 0 ?_ ⟨Nat.zero_le _,rfl⟩ ?_
 ·simp only [go_sem]
  refine weA ?_ ?_ <;> simp
 ·rintro i ⟨hi,hs⟩
  simp only [go_sem]
  repeat (first | refine nx ?_ | (refine z10 fun K hK=>?_;simp only [go_sem];apply hK;clear hK K))
  refine z14 rfl (fun hb=>?_) (fun hb=>?_)
  ·have hlt:i<k.allerg.length:=by simpa using hb
   have hw:IntKind.i64.wrap ((i:Int) + 1)=((i + 1:Nat):Int):=by rw [z17 (by omega)];simp
   have g1:=z33 (l:=N) (i:=i) (by omega)
   have g2:=z33 (l:=k.allerg) (i:=i) (by omega)
   have hni:¬ ((i:Int)<0):=by omega
   cases q1:decide (getI N (i:Int) > 0)
   ·have hbg:badGood k.allerg N no i=false:=by rw [badGood,q1];rfl
    repeat (first | refine z12 rfl ?_ | refine z11 rfl ?_ | refine nx ?_ | (refine z10 fun K hK=>?_;simp only [go_sem,gd,hnn,g1,q1,hni,hw];apply hK;clear hK K))
    refine ⟨rfl,i + 1,?_,⟨hlt,by rw [suitTo,hs,hbg];rfl⟩,by omega⟩
    refine weA ?_ ?_ <;> simp
   ·cases q2:(bAnd .i64 (getI k.allerg (i:Int)) no != 0)
    ·have hbg:badGood k.allerg N no i=false:=by rw [badGood,q2,Bool.and_false]
     repeat (first | refine z12 rfl ?_ | refine z11 rfl ?_ | refine nx ?_ | (refine z10 fun K hK=>?_;simp only [go_sem,gd,hnn,g1,g2,q1,q2,hni,hw];apply hK;clear hK K))
     refine ⟨rfl,i + 1,?_,⟨hlt,by rw [suitTo,hs,hbg];rfl⟩,by omega⟩
     refine weA ?_ ?_ <;> simp
    ·have hbg:badGood k.allerg N no i=true:=by rw [badGood,q1,q2];rfl
     rw [z281 hbg (m:=N.length) (by omega)]
     repeat (first | refine z12 rfl ?_ | refine z11 rfl ?_ | refine nx ?_ | (refine z10 fun K hK=>?_;simp only [go_sem,gd,hnn,g1,g2,q1,q2,hni];apply hK;clear hK K))
     simp only [go_sem]
  ·have he:i=k.allerg.length:=by (have:¬ i<k.allerg.length:=by simpa using hb);omega
   subst he
   rw [hl,hs]
   repeat (first | refine nx ?_ | (refine z10 fun K hK=>?_;simp only [go_sem];apply hK;clear hK K))
   simp only [go_sem]
theorem z1100 (k:Kitchen) (hg:KitGood k) (M:List (List Int)) (hM:M.length<2 ^ 30) (hMr:∀ r ∈ M,r.length<2 ^ 30):Fn Try.prog 23 [.agg k.cells,.sl (listRows M)] (.bool (shapedB (menuB k) M k.days)):=by
 obtain ⟨q,hqd⟩:∃ q,q=menuB k:=⟨_,rfl⟩
 have hq:∀ (n:Int) (g:Diners),q n g=(withinB n 0 ((k.dishes.length:Int) - 1) && suitsB k n g.no):=fun n g=>by rw [hqd];rfl
 rw [← hqd]
 have hgr:=hg.groups
 have hdl:=hg.dishes
 have w:IntKind.i64.wrap ((k.dishes.length:Int) - 1)=(k.dishes.length:Int) - 1:=z17 (by omega)
 obtain ⟨R,hR⟩:∃ R,R=shapedB q M k.days:=⟨_,rfl⟩
 rw [← hR]
 cases q1:((M.length:Int) != (k.days.length:Int))
 ·have hl:M.length=k.days.length:=by
   simp only [bne_eq_false_iff_eq] at q1
   omega
  refine z18 74 Try.call23 Try.func23 rfl (by decide) fun J=>?_
  simp only [go_sem,St.start,Try.ntmps23,Try.results23,Kitchen.cells]
  repeat (first | refine z12 rfl ?_ | refine z11 rfl ?_ | refine nx ?_ | (refine z10 fun K hK=>?_;simp only [go_sem,q1,z25];apply hK;clear hK K))
  refine z15 (fun (i:Nat)=>[(5,.d (.i (i:Int))),(6,.undef)]) (fun _=>[]) (fun i=>i≤M.length∧R=shapedB q (M.drop i) (k.days.drop i)) (fun i=>M.length - i) 0 ?_ ⟨Nat.zero_le _,hR⟩ ?_
  ·simp only [go_sem]
   refine weA ?_ ?_ <;> simp
  ·rintro i ⟨hi,hRi⟩
   simp only [go_sem]
   repeat (first | refine nx ?_ | (refine z10 fun K hK=>?_;simp only [go_sem,z25];apply hK;clear hK K))
   refine z14 rfl (fun hb=>?_) (fun hb=>?_)
   ·have hlt:i<M.length:=by simpa using hb
    have hw:IntKind.i64.wrap ((i:Int) + 1)=((i + 1:Nat):Int):=by rw [z17 (by omega)];simp
    obtain ⟨d,hd⟩:∃ d,k.days[i]?=some d:=⟨_,List.getElem?_eq_getElem (by omega)⟩
    obtain ⟨r,hr⟩:∃ r,M[i]?=some r:=⟨_,List.getElem?_eq_getElem (by omega)⟩
    have g1:=z73 hd
    have g2:=z32 hr
    have hni:¬ ((i:Int)<0):=by omega
    have hd3:=(hgr d (List.mem_of_getElem? hd)).1
    rw [z29 hd,z29 hr,shapedB] at hRi
    cases q2:((r.length:Int) != (d.length:Int))
    ·have hrl:r.length=d.length:=by
      simp only [bne_eq_false_iff_eq] at q2
      omega
     repeat (first | refine nx ?_ | (refine z10 fun K hK=>?_;simp only [go_sem];apply hK;clear hK K))
     refine z16 (by kernel_rfl) (by kernel_rfl) fun K hK=>?_
     simp only [go_sem,g1,g2,hni,q2]
     refine ⟨by kernel_rfl,hK _ ?_⟩
     clear hK K
     repeat (first | refine z12 rfl ?_ | refine z11 rfl ?_ | refine nx ?_ | (refine z10 fun K hK=>?_;simp only [go_sem];apply hK;clear hK K))
     refine z15 (fun (j:Nat)=>[(6,.d (.i (j:Int)))]) (fun _=>[]) (fun j=>j≤r.length∧R=(rowOk q (r.drop j) (d.drop j) && shapedB q (M.drop (i + 1)) (k.days.drop (i + 1)))) (fun j=>r.length - j) 0 ?_ ⟨Nat.zero_le _,hRi⟩ ?_
     ·simp only [go_sem]
      refine weA ?_ ?_ <;> simp
     ·rintro j ⟨hj,hRj⟩
      simp only [go_sem]
      repeat (first | refine nx ?_ | (refine z10 fun K hK=>?_;simp only [go_sem,g2,hni];apply hK;clear hK K))
      refine z14 rfl (fun hb=>?_) (fun hb=>?_)
      ·have hltj:j<r.length:=by simpa using hb
       have hwj:IntKind.i64.wrap ((j:Int) + 1)=((j + 1:Nat):Int):=by rw [z17 (by omega)];simp
       obtain ⟨g,hgj⟩:∃ g,d[j]?=some g:=⟨_,List.getElem?_eq_getElem (by omega)⟩
       obtain ⟨n,hnj⟩:∃ n,r[j]?=some n:=⟨_,List.getElem?_eq_getElem (by omega)⟩
       have g3:=z84 hgj
       have g4:=z35 hnj
       rw [Diners.row] at g3
       have hnjj:¬ ((j:Int)<0):=by omega
       have c1:=z798 n 0 ((k.dishes.length:Int) - 1)
       rw [z29 hgj,z29 hnj,rowOk,hq] at hRj
       cases q3:withinB n 0 ((k.dishes.length:Int) - 1)
       ·rw [q3] at hRj c1
        rw [Bool.false_and,Bool.false_and,Bool.false_and] at hRj
        rw [hRj]
        repeat (first | refine nx ?_ | (refine z10 fun K hK=>?_;simp only [go_sem];apply hK;clear hK K))
        refine z16 (by kernel_rfl) (by kernel_rfl) fun K hK=>?_
        simp only [go_sem,g1,g2,g3,g4,hni,hnjj,w]
        refine ⟨_,.fn (hf:=c1) (hd:=rfl) (hr:=.inl rfl),?_⟩
        simp only [go_sem]
        refine ⟨by kernel_rfl,hK _ ?_⟩
        clear hK K
        repeat (first | refine z12 rfl ?_ | refine z11 rfl ?_ | refine nx ?_ | (refine z10 fun K hK=>?_;simp only [go_sem];apply hK;clear hK K))
        simp only [go_sem]
       ·rw [q3] at hRj c1
        rw [Bool.true_and] at hRj
        have hw3:=z37.1 q3
        obtain ⟨m,rfl⟩:∃ m:Nat,n=(m:Int):=⟨n.toNat,by omega⟩
        have c2:=z1097 k hg m g.no (by omega)
        cases q4:suitsB k (m:Int) g.no
        ·rw [q4] at hRj c2
         rw [Bool.false_and,Bool.false_and] at hRj
         rw [hRj]
         rw [Kitchen.cells] at c2
         repeat (first | refine nx ?_ | (refine z10 fun K hK=>?_;simp only [go_sem];apply hK;clear hK K))
         refine z16 (by kernel_rfl) (by kernel_rfl) fun K hK=>?_
         simp only [go_sem,g1,g2,g3,g4,hni,hnjj,w]
         refine ⟨_,.fn (hf:=c1) (hd:=rfl) (hr:=.inl rfl),?_⟩
         simp only [go_sem,g1,g2,g3,g4,hni,hnjj]
         refine ⟨_,.fn (hf:=c2) (hd:=rfl) (hr:=.inl rfl),?_⟩
         simp only [go_sem]
         refine ⟨by kernel_rfl,hK _ ?_⟩
         clear hK K
         repeat (first | refine z12 rfl ?_ | refine z11 rfl ?_ | refine nx ?_ | (refine z10 fun K hK=>?_;simp only [go_sem];apply hK;clear hK K))
         simp only [go_sem]
        ·rw [q4] at hRj c2
         rw [Bool.true_and] at hRj
         rw [Kitchen.cells] at c2
         repeat (first | refine nx ?_ | (refine z10 fun K hK=>?_;simp only [go_sem];apply hK;clear hK K))
         refine z16 (by kernel_rfl) (by kernel_rfl) fun K hK=>?_
         simp only [go_sem,g1,g2,g3,g4,hni,hnjj,w]
         refine ⟨_,.fn (hf:=c1) (hd:=rfl) (hr:=.inl rfl),?_⟩
         simp only [go_sem,g1,g2,g3,g4,hni,hnjj]
         refine ⟨_,.fn (hf:=c2) (hd:=rfl) (hr:=.inl rfl),?_⟩
         simp only [go_sem]
         refine ⟨by kernel_rfl,hK _ ?_⟩
         clear hK K
         repeat (first | refine z12 rfl ?_ | refine z11 rfl ?_ | refine nx ?_ | (refine z10 fun K hK=>?_;simp only [go_sem,hwj];apply hK;clear hK K))
         refine ⟨rfl,j + 1,?_,⟨hltj,hRj⟩,by omega⟩
         refine weA ?_ ?_ <;> simp
      ·have he:j=r.length:=by (have:¬ j<r.length:=by simpa using hb);omega
       subst he
       rw [List.drop_length,hrl,List.drop_length,rowOk,Bool.true_and] at hRj
       repeat (first | refine nx ?_ | (refine z10 fun K hK=>?_;simp only [go_sem,hw];apply hK;clear hK K))
       refine ⟨rfl,i + 1,?_,⟨hlt,hRj⟩,by omega⟩
       refine weA ?_ ?_ <;> simp
    ·have hf:rowOk q r d=false:=by
      cases hx:rowOk q r d with
      | false=>rfl
      | true =>
       have:=z66 hx
       rw [this] at q2
       simp at q2
     rw [hf,Bool.false_and] at hRi
     rw [hRi]
     repeat (first | refine nx ?_ | (refine z10 fun K hK=>?_;simp only [go_sem];apply hK;clear hK K))
     refine z16 (by kernel_rfl) (by kernel_rfl) fun K hK=>?_
     simp only [go_sem,g1,g2,hni,q2]
     refine ⟨by kernel_rfl,hK _ ?_⟩
     clear hK K
     repeat (first | refine z12 rfl ?_ | refine z11 rfl ?_ | refine nx ?_ | (refine z10 fun K hK=>?_;simp only [go_sem];apply hK;clear hK K))
     simp only [go_sem]
   ·have he:i=M.length:=by (have:¬ i<M.length:=by simpa using hb);omega
    subst he
    rw [List.drop_length,hl,List.drop_length,shapedB] at hRi
    rw [hRi]
    repeat (first | refine nx ?_ | (refine z10 fun K hK=>?_;simp only [go_sem];apply hK;clear hK K))
    simp only [go_sem]
 ·have hf:R=false:=by
   rw [hR]
   cases hx:shapedB q M k.days with
   | false=>rfl
   | true =>
    have:=z38 hx
    rw [this] at q1
    simp at q1
  rw [hf]
  refine z18 74 Try.call23 Try.func23 rfl (by decide) fun J=>?_
  simp only [go_sem,St.start,Try.ntmps23,Try.results23,Kitchen.cells]
  repeat (first | refine z12 rfl ?_ | refine z11 rfl ?_ | refine nx ?_ | (refine z10 fun K hK=>?_;simp only [go_sem,q1,z25];apply hK;clear hK K))
  simp only [go_sem]
end Go.Ab
namespace Go.Ab
open Go.RowKit Go.Proofs
set_option maxHeartbeats 8000000
set_option maxRecDepth 20000
attribute [local irreducible] WalkL Walk
def longB (r:List Int):Bool:=decide ((r.length:Int) > 20)
def farRows (M:List (List Int)):Bool:=M.any longB || decide ((M.length:Int) > 20)
theorem z1059 (M:List (List Int)) (hM:M.length<2 ^ 30):Fn Try.prog 12 [.sl (listRows M)] (.bool (farRows M)):=by
 unfold farRows
 obtain ⟨R,hR⟩:∃ R,R=(M.any longB || decide ((M.length:Int) > 20)):=⟨_,rfl⟩
 rw [← hR]
 refine z18 19 Try.call12 Try.func12 rfl (by decide) fun J=>?_
 simp only [go_sem,St.start,Try.ntmps12,Try.results12]
 repeat (first | refine nx ?_ | (refine z10 fun K hK=>?_;simp only [go_sem];apply hK;clear hK K))
 refine z15 (fun (i:Nat)=>[(3,.d (.i (i:Int)))]) (fun _=>[]) (fun i=>i≤M.length∧R=((M.drop i).any longB || decide ((M.length:Int) > 20))) (fun i=>M.length - i) 0 ?_ ⟨Nat.zero_le _,hR⟩ ?_
 ·simp only [go_sem]
  refine weA ?_ ?_ <;> simp
 ·rintro i ⟨hi,z47⟩
  simp only [go_sem]
  repeat (first | refine nx ?_ | (refine z10 fun K hK=>?_;simp only [go_sem,z25];apply hK;clear hK K))
  refine z14 rfl (fun hb=>?_) (fun hb=>?_)
  ·have hlt:i<M.length:=by simpa using hb
   have hw:IntKind.i64.wrap ((i:Int) + 1)=((i + 1:Nat):Int):=by rw [z17 (by omega)];simp
   obtain ⟨r,hr⟩:∃ r,M[i]?=some r:=⟨_,List.getElem?_eq_getElem hlt⟩
   have g1:=z32 hr
   have hni:¬ ((i:Int)<0):=by omega
   rw [z29 hr,List.any_cons] at z47
   cases q:longB r
   ·rw [q,Bool.false_or] at z47
    rw [longB] at q
    repeat (first | refine z12 rfl ?_ | refine z11 rfl ?_ | refine nx ?_ | (refine z10 fun K hK=>?_;simp only [go_sem,g1,hni,q,hw];apply hK;clear hK K))
    refine ⟨rfl,i + 1,?_,⟨hlt,z47⟩,by omega⟩
    refine weA ?_ ?_ <;> simp
   ·rw [q,Bool.true_or,Bool.true_or] at z47
    rw [longB] at q
    subst z47
    repeat (first | refine z12 rfl ?_ | refine z11 rfl ?_ | refine nx ?_ | (refine z10 fun K hK=>?_;simp only [go_sem,g1,hni,q];apply hK;clear hK K))
    simp only [go_sem]
  ·have he:i=M.length:=by (have:¬ i<M.length:=by simpa using hb);omega
   subst he
   rw [List.drop_length,List.any_nil,Bool.false_or] at z47
   subst z47
   repeat (first | refine nx ?_ | (refine z10 fun K hK=>?_;simp only [go_sem,z25];apply hK;clear hK K))
   simp only [go_sem]
def longD (d:List Diners):Bool:=decide ((d.length:Int) > 20)
def longN (d:Dish):Bool:=decide ((d.needs.length:Int) > 20)
def maxTo (l:List (List Diners)):Nat→Int
 | 0=>0
 | i + 1=>max (maxTo l i) ((l.getD i []).length:Int)
def farK1 (k:Kitchen):Bool:=decide ((k.allerg.length:Int) > 20) || (decide ((k.batches.length:Int) > 20) || (decide ((k.dishes.length:Int) > 20) || decide ((k.days.length:Int) > 20)))
def farK2 (k:Kitchen):Bool:=(kitE k == 0) && (decide ((k.dishes.length:Int) > 3) || (decide ((k.days.length:Int) > 3) || decide (maxTo k.days k.days.length > 2)))
def far7 (k:Kitchen):Bool:=farK1 k || (k.days.any longD || (k.dishes.any longN || farK2 k))
theorem z1106 (k:Kitchen) (hs:KitSmall k):Fn Try.prog 11 [.agg k.cells] (.bool (far7 k)):=by
 have h44:=z1056 k hs
 have a1:=hs.allerg
 have a2:=hs.batches
 have a3:=hs.dishes
 have a5:=hs.days
 obtain ⟨R,hR⟩:∃ R,R=far7 k:=⟨_,rfl⟩
 rw [← hR]
 rw [far7] at hR
 rw [Kitchen.cells] at h44
 refine z18 84 Try.call11 Try.func11 rfl (by decide) fun J=>?_
 simp only [go_sem,St.start,Try.ntmps11,Try.results11,Kitchen.cells]
 repeat (first | refine nx ?_ | (refine z10 fun K hK=>?_;simp only [go_sem];apply hK;clear hK K))
 refine z131 [(27,.d (.bool (farK1 k)))] [] ?_ ?_
 ·refine z10 fun K hK=>?_
  simp only [go_sem]
  by_cases ho0:(decide ((k.allerg.length:Int) > 20))=true
  ·simp only [go_sem,ho0]
   apply hK
   clear hK K
   refine z34 ?_
   refine z23 ?_
   refine ⟨rfl,?_⟩
   rw [show (farK1 k)=(true) from by simp [farK1,ho0]]
   simp only [go_sem]
   refine weA ?_ ?_ <;> simp
  ·simp only [go_sem,ho0]
   by_cases ho1:(decide ((k.batches.length:Int) > 20))=true
   ·simp only [go_sem,ho0,ho1]
    apply hK
    clear hK K
    refine z34 ?_
    refine z23 ?_
    refine ⟨rfl,?_⟩
    rw [show (farK1 k)=(true) from by simp [farK1,ho0,ho1]]
    simp only [go_sem]
    refine weA ?_ ?_ <;> simp
   ·simp only [go_sem,ho0,ho1]
    by_cases ho2:(decide ((k.dishes.length:Int) > 20))=true
    ·simp only [go_sem,ho0,ho1,ho2]
     apply hK
     clear hK K
     refine z34 ?_
     refine z23 ?_
     refine ⟨rfl,?_⟩
     rw [show (farK1 k)=(true) from by simp [farK1,ho0,ho1,ho2]]
     simp only [go_sem]
     refine weA ?_ ?_ <;> simp
    ·simp only [go_sem,ho0,ho1,ho2]
     apply hK
     clear hK K
     refine z34 ?_
     refine z23 ?_
     refine ⟨rfl,?_⟩
     rw [show (farK1 k)=(decide ((k.days.length:Int) > 20)) from by simp [farK1,ho0,ho1,ho2]]
     simp only [go_sem]
     refine weA ?_ ?_ <;> simp
 simp only [go_sem]
 repeat (first | refine nx ?_ | (refine z10 fun K hK=>?_;simp only [go_sem];apply hK;clear hK K))
 refine z14 rfl (fun hc=>?_) (fun hc=>?_)
 ·rw [hc,Bool.true_or] at hR
  subst hR
  rw [hc]
  repeat (first | refine nx ?_ | (refine z10 fun K hK=>?_;simp only [go_sem];apply hK;clear hK K))
  simp only [go_sem,if_true]
 ·rw [hc,Bool.false_or] at hR
  rw [hc]
  repeat (first | refine nx ?_ | (refine z10 fun K hK=>?_;simp only [go_sem];apply hK;clear hK K))
  refine z15 (fun (i:Nat)=>[(4,.d (.i (i:Int))),(3,.d (.i (maxTo k.days i)))]) (fun _=>[]) (fun i=>i≤k.days.length∧R=((k.days.drop i).any longD || (k.dishes.any longN || farK2 k))) (fun i=>k.days.length - i) 0 ?_ ⟨Nat.zero_le _,hR⟩ ?_
  ·simp only [go_sem,maxTo]
   refine weA ?_ ?_ <;> simp
  ·rintro i ⟨hi,z47⟩
   have hmx:max (maxTo k.days i) ((k.days.getD i []).length:Int)=maxTo k.days (i + 1):=rfl
   obtain ⟨mi,hmi⟩:∃ m,m=maxTo k.days i:=⟨_,rfl⟩
   rw [← hmi] at hmx
   simp only [go_sem,← hmi]
   repeat (first | refine nx ?_ | (refine z10 fun K hK=>?_;simp only [go_sem];apply hK;clear hK K))
   refine z14 rfl (fun hb=>?_) (fun hb=>?_)
   ·have hlt:i<k.days.length:=by simpa using hb
    have hw:IntKind.i64.wrap ((i:Int) + 1)=((i + 1:Nat):Int):=by rw [z17 (by omega)];simp
    obtain ⟨r,hr⟩:∃ r,k.days[i]?=some r:=⟨_,List.getElem?_eq_getElem hlt⟩
    have g1:=z73 hr
    have hni:¬ ((i:Int)<0):=by omega
    rw [List.getD,hr,Option.getD_some] at hmx
    rw [z29 hr,List.any_cons] at z47
    cases q:longD r
    ·rw [q,Bool.false_or] at z47
     rw [longD] at q
     repeat (first | refine z12 rfl ?_ | refine z11 rfl ?_ | refine nx ?_ | (refine z10 fun K hK=>?_;simp only [go_sem,g1,hni,q,hw,hmx];apply hK;clear hK K))
     refine ⟨rfl,i + 1,?_,⟨hlt,z47⟩,by omega⟩
     refine weA ?_ ?_ <;> simp
     all_goals first | done | rfl | trace_state
    ·rw [q,Bool.true_or] at z47
     rw [longD] at q
     subst z47
     repeat (first | refine z12 rfl ?_ | refine z11 rfl ?_ | refine nx ?_ | (refine z10 fun K hK=>?_;simp only [go_sem,g1,hni,q];apply hK;clear hK K))
     simp only [go_sem]
   ·have he:i=k.days.length:=by (have:¬ i<k.days.length:=by simpa using hb);omega
    subst he
    rw [List.drop_length,List.any_nil,Bool.false_or] at z47
    repeat (first | refine nx ?_ | (refine z10 fun K hK=>?_;simp only [go_sem];apply hK;clear hK K))
    refine z15 (fun (j:Nat)=>[(5,.d (.i (j:Int)))]) (fun _=>[]) (fun j=>j≤k.dishes.length∧R=((k.dishes.drop j).any longN || farK2 k)) (fun j=>k.dishes.length - j) 0 ?_ ⟨Nat.zero_le _,z47⟩ ?_
    ·simp only [go_sem]
     refine weA ?_ ?_ <;> simp
    ·rintro j ⟨hj,hallj⟩
     simp only [go_sem]
     repeat (first | refine nx ?_ | (refine z10 fun K hK=>?_;simp only [go_sem];apply hK;clear hK K))
     refine z14 rfl (fun hb=>?_) (fun hb=>?_)
     ·have hlt:j<k.dishes.length:=by simpa using hb
      have hw:IntKind.i64.wrap ((j:Int) + 1)=((j + 1:Nat):Int):=by rw [z17 (by omega)];simp
      obtain ⟨r,hr⟩:∃ r,k.dishes[j]?=some r:=⟨_,List.getElem?_eq_getElem hlt⟩
      have g1:=z142 hr
      rw [Dish.row] at g1
      have hni:¬ ((j:Int)<0):=by omega
      rw [z29 hr,List.any_cons] at hallj
      cases q:longN r
      ·rw [q,Bool.false_or] at hallj
       rw [longN] at q
       repeat (first | refine z12 rfl ?_ | refine z11 rfl ?_ | refine nx ?_ | (refine z10 fun K hK=>?_;simp only [go_sem,g1,hni,q,hw];apply hK;clear hK K))
       refine ⟨rfl,j + 1,?_,⟨hlt,hallj⟩,by omega⟩
       refine weA ?_ ?_ <;> simp
      ·rw [q,Bool.true_or] at hallj
       rw [longN] at q
       subst hallj
       repeat (first | refine z12 rfl ?_ | refine z11 rfl ?_ | refine nx ?_ | (refine z10 fun K hK=>?_;simp only [go_sem,g1,hni,q];apply hK;clear hK K))
       simp only [go_sem]
     ·have he:j=k.dishes.length:=by (have:¬ j<k.dishes.length:=by simpa using hb);omega
      subst he
      rw [List.drop_length,List.any_nil,Bool.false_or,farK2,← hmi] at hallj
      obtain ⟨e,he⟩:∃ e,e=kitE k:=⟨_,rfl⟩
      rw [← he] at h44 hallj
      cases q0:(e == 0)
      ·rw [q0,Bool.false_and] at hallj
       subst hallj
       repeat (first | refine z12 rfl ?_ | refine z11 rfl ?_ | refine nx ?_ | (refine z10 fun K hK=>?_;simp only [go_sem,q0];(repeat (first | (refine ⟨_,.lent (hf:=h44) (hd:=rfl) (hr:=rfl),?_⟩;simp only [go_sem,q0]) | (refine ⟨_,.given (hf:=h44) (hd:=rfl) (ha:=rfl),?_⟩;simp only [go_sem,q0])));apply hK;clear hK K))
       simp only [go_sem]
      ·rw [q0,Bool.true_and] at hallj
       cases q1:decide ((k.dishes.length:Int) > 3)
       ·rw [q1,Bool.false_or] at hallj
        cases q2:decide ((k.days.length:Int) > 3)
        ·rw [q2,Bool.false_or] at hallj
         subst hallj
         repeat (first | refine z12 rfl ?_ | refine z11 rfl ?_ | refine nx ?_ | (refine z10 fun K hK=>?_;simp only [go_sem,q0,q1,q2];(repeat (first | (refine ⟨_,.lent (hf:=h44) (hd:=rfl) (hr:=rfl),?_⟩;simp only [go_sem,q0,q1,q2]) | (refine ⟨_,.given (hf:=h44) (hd:=rfl) (ha:=rfl),?_⟩;simp only [go_sem,q0,q1,q2])));apply hK;clear hK K))
         simp only [go_sem]
        ·rw [q2,Bool.true_or] at hallj
         subst hallj
         repeat (first | refine z12 rfl ?_ | refine z11 rfl ?_ | refine nx ?_ | (refine z10 fun K hK=>?_;simp only [go_sem,q0,q1,q2];(repeat (first | (refine ⟨_,.lent (hf:=h44) (hd:=rfl) (hr:=rfl),?_⟩;simp only [go_sem,q0,q1,q2]) | (refine ⟨_,.given (hf:=h44) (hd:=rfl) (ha:=rfl),?_⟩;simp only [go_sem,q0,q1,q2])));apply hK;clear hK K))
         simp only [go_sem]
       ·rw [q1,Bool.true_or] at hallj
        subst hallj
        repeat (first | refine z12 rfl ?_ | refine z11 rfl ?_ | refine nx ?_ | (refine z10 fun K hK=>?_;simp only [go_sem,q0,q1];(repeat (first | (refine ⟨_,.lent (hf:=h44) (hd:=rfl) (hr:=rfl),?_⟩;simp only [go_sem,q0,q1]) | (refine ⟨_,.given (hf:=h44) (hd:=rfl) (ha:=rfl),?_⟩;simp only [go_sem,q0,q1])));apply hK;clear hK K))
        simp only [go_sem]
end Go.Ab
namespace Go.Ab
open Go.RowKit Go.Proofs
set_option maxHeartbeats 16000000
set_option maxRecDepth 20000
attribute [local irreducible] WalkL Walk
def suitsP (k:Kitchen) (no:Int):List Int × Int:=if kitE k=0 then (if setB no=true then (suitL k no,0) else ([],1)) else ([],kitE k)
def readyB (k:Kitchen):Bool:=!far7 k && (kitE k == 0)
theorem z1101 (k:Kitchen) (hs:KitSmall k):Fn Try.prog 22 [.agg k.cells] (.bool (readyB k)):=by
 have h11:=z1106 k hs
 have h32:=z1056 k hs
 rw [Kitchen.cells] at h11 h32 ⊢
 unfold readyB
 cases q1:far7 k
 ·rw [q1] at h11
  cases q2:(kitE k == 0)
  ·refine z18 11 Try.call22 Try.func22 rfl (by decide) fun J=>?_
   simp only [go_sem,St.start,Try.ntmps22,Try.results22]
   repeat (first | refine z12 rfl ?_ | refine z11 rfl ?_ | refine nx ?_ | (refine z10 fun K hK=>?_;simp only [go_sem,q2];(repeat (first | (refine ⟨_,.lent (hf:=h11) (hd:=rfl) (hr:=rfl),?_⟩;simp only [go_sem,q2]) | (refine ⟨_,.lent (hf:=h32) (hd:=rfl) (hr:=rfl),?_⟩;simp only [go_sem,q2]) | (refine ⟨_,.given (hf:=h11) (hd:=rfl) (ha:=rfl),?_⟩;simp only [go_sem,q2]) | (refine ⟨_,.given (hf:=h32) (hd:=rfl) (ha:=rfl),?_⟩;simp only [go_sem,q2])));apply hK;clear hK K))
   simp only [go_sem,q2]
  ·refine z18 11 Try.call22 Try.func22 rfl (by decide) fun J=>?_
   simp only [go_sem,St.start,Try.ntmps22,Try.results22]
   repeat (first | refine z12 rfl ?_ | refine z11 rfl ?_ | refine nx ?_ | (refine z10 fun K hK=>?_;simp only [go_sem,q2];(repeat (first | (refine ⟨_,.lent (hf:=h11) (hd:=rfl) (hr:=rfl),?_⟩;simp only [go_sem,q2]) | (refine ⟨_,.lent (hf:=h32) (hd:=rfl) (hr:=rfl),?_⟩;simp only [go_sem,q2]) | (refine ⟨_,.given (hf:=h11) (hd:=rfl) (ha:=rfl),?_⟩;simp only [go_sem,q2]) | (refine ⟨_,.given (hf:=h32) (hd:=rfl) (ha:=rfl),?_⟩;simp only [go_sem,q2])));apply hK;clear hK K))
   simp only [go_sem,q2]
 ·rw [q1] at h11
  refine z18 11 Try.call22 Try.func22 rfl (by decide) fun J=>?_
  simp only [go_sem,St.start,Try.ntmps22,Try.results22]
  repeat (first | refine z12 rfl ?_ | refine z11 rfl ?_ | refine nx ?_ | (refine z10 fun K hK=>?_;simp only [go_sem];(repeat (first | (refine ⟨_,.lent (hf:=h11) (hd:=rfl) (hr:=rfl),?_⟩;simp only [go_sem]) | (refine ⟨_,.given (hf:=h11) (hd:=rfl) (ha:=rfl),?_⟩;simp only [go_sem])));apply hK;clear hK K))
  simp only [go_sem]
end Go.Ab
namespace Go.Ab
open Go.RowKit Go.Proofs
set_option maxHeartbeats 16000000
set_option maxRecDepth 20000
attribute [local irreducible] WalkL Walk
end Go.Ab
namespace Go.Ab
open Go.RowKit Go.Proofs
set_option maxHeartbeats 16000000
set_option maxRecDepth 20000
attribute [local irreducible] WalkL Walk
theorem z1099 (k:Kitchen) (hg:KitGood k) (M:List (List Int)) (hM:M.length<2 ^ 30) (hMr:∀ r ∈ M,r.length<2 ^ 30):Fn Try.prog 24 [.agg k.cells,.sl (listRows M)] (.bool (shapedB (countB) M k.days)):=by
 obtain ⟨q,hqd⟩:∃ q,q=countB:=⟨_,rfl⟩
 have hq:∀ (n:Int) (g:Diners),q n g=withinB n g.count.lo g.count.hi:=fun n g=>by rw [hqd];rfl
 rw [← hqd]
 have hgr:=hg.groups
 have hdl:=hg.dishes
 obtain ⟨R,hR⟩:∃ R,R=shapedB q M k.days:=⟨_,rfl⟩
 rw [← hR]
 cases q1:((M.length:Int) != (k.days.length:Int))
 ·have hl:M.length=k.days.length:=by
   simp only [bne_eq_false_iff_eq] at q1
   omega
  refine z18 69 Try.call24 Try.func24 rfl (by decide) fun J=>?_
  simp only [go_sem,St.start,Try.ntmps24,Try.results24,Kitchen.cells]
  repeat (first | refine z12 rfl ?_ | refine z11 rfl ?_ | refine nx ?_ | (refine z10 fun K hK=>?_;simp only [go_sem,q1,z25];apply hK;clear hK K))
  refine z15 (fun (i:Nat)=>[(5,.d (.i (i:Int))),(6,.undef)]) (fun _=>[]) (fun i=>i≤M.length∧R=shapedB q (M.drop i) (k.days.drop i)) (fun i=>M.length - i) 0 ?_ ⟨Nat.zero_le _,hR⟩ ?_
  ·simp only [go_sem]
   refine weA ?_ ?_ <;> simp
  ·rintro i ⟨hi,hRi⟩
   simp only [go_sem]
   repeat (first | refine nx ?_ | (refine z10 fun K hK=>?_;simp only [go_sem,z25];apply hK;clear hK K))
   refine z14 rfl (fun hb=>?_) (fun hb=>?_)
   ·have hlt:i<M.length:=by simpa using hb
    have hw:IntKind.i64.wrap ((i:Int) + 1)=((i + 1:Nat):Int):=by rw [z17 (by omega)];simp
    obtain ⟨d,hd⟩:∃ d,k.days[i]?=some d:=⟨_,List.getElem?_eq_getElem (by omega)⟩
    obtain ⟨r,hr⟩:∃ r,M[i]?=some r:=⟨_,List.getElem?_eq_getElem (by omega)⟩
    have g1:=z73 hd
    have g2:=z32 hr
    have hni:¬ ((i:Int)<0):=by omega
    have hd3:=(hgr d (List.mem_of_getElem? hd)).1
    rw [z29 hd,z29 hr,shapedB] at hRi
    cases q2:((r.length:Int) != (d.length:Int))
    ·have hrl:r.length=d.length:=by
      simp only [bne_eq_false_iff_eq] at q2
      omega
     repeat (first | refine nx ?_ | (refine z10 fun K hK=>?_;simp only [go_sem];apply hK;clear hK K))
     refine z16 (by kernel_rfl) (by kernel_rfl) fun K hK=>?_
     simp only [go_sem,g1,g2,hni,q2]
     refine ⟨by kernel_rfl,hK _ ?_⟩
     clear hK K
     repeat (first | refine z12 rfl ?_ | refine z11 rfl ?_ | refine nx ?_ | (refine z10 fun K hK=>?_;simp only [go_sem];apply hK;clear hK K))
     refine z15 (fun (j:Nat)=>[(6,.d (.i (j:Int)))]) (fun _=>[]) (fun j=>j≤r.length∧R=(rowOk q (r.drop j) (d.drop j) && shapedB q (M.drop (i + 1)) (k.days.drop (i + 1)))) (fun j=>r.length - j) 0 ?_ ⟨Nat.zero_le _,hRi⟩ ?_
     ·simp only [go_sem]
      refine weA ?_ ?_ <;> simp
     ·rintro j ⟨hj,hRj⟩
      simp only [go_sem]
      repeat (first | refine nx ?_ | (refine z10 fun K hK=>?_;simp only [go_sem,g2,hni];apply hK;clear hK K))
      refine z14 rfl (fun hb=>?_) (fun hb=>?_)
      ·have hltj:j<r.length:=by simpa using hb
       have hwj:IntKind.i64.wrap ((j:Int) + 1)=((j + 1:Nat):Int):=by rw [z17 (by omega)];simp
       obtain ⟨g,hgj⟩:∃ g,d[j]?=some g:=⟨_,List.getElem?_eq_getElem (by omega)⟩
       obtain ⟨n,hnj⟩:∃ n,r[j]?=some n:=⟨_,List.getElem?_eq_getElem (by omega)⟩
       have g3:=z84 hgj
       have g4:=z35 hnj
       rw [Diners.row] at g3
       have hnjj:¬ ((j:Int)<0):=by omega
       have c1:=z798 n g.count.lo g.count.hi
       rw [z29 hgj,z29 hnj,rowOk,hq] at hRj
       cases q3:withinB n g.count.lo g.count.hi
       ·rw [q3] at hRj c1
        rw [Bool.false_and,Bool.false_and] at hRj
        rw [hRj]
        repeat (first | refine nx ?_ | (refine z10 fun K hK=>?_;simp only [go_sem];apply hK;clear hK K))
        refine z16 (by kernel_rfl) (by kernel_rfl) fun K hK=>?_
        simp only [go_sem,g1,g2,g3,g4,hni,hnjj]
        refine ⟨_,.fn (hf:=c1) (hd:=rfl) (hr:=.inl rfl),?_⟩
        simp only [go_sem]
        refine ⟨by kernel_rfl,hK _ ?_⟩
        clear hK K
        repeat (first | refine z12 rfl ?_ | refine z11 rfl ?_ | refine nx ?_ | (refine z10 fun K hK=>?_;simp only [go_sem];apply hK;clear hK K))
        simp only [go_sem]
       ·rw [q3] at hRj c1
        rw [Bool.true_and] at hRj
        repeat (first | refine nx ?_ | (refine z10 fun K hK=>?_;simp only [go_sem];apply hK;clear hK K))
        refine z16 (by kernel_rfl) (by kernel_rfl) fun K hK=>?_
        simp only [go_sem,g1,g2,g3,g4,hni,hnjj]
        refine ⟨_,.fn (hf:=c1) (hd:=rfl) (hr:=.inl rfl),?_⟩
        simp only [go_sem]
        refine ⟨by kernel_rfl,hK _ ?_⟩
        clear hK K
        repeat (first | refine z12 rfl ?_ | refine z11 rfl ?_ | refine nx ?_ | (refine z10 fun K hK=>?_;simp only [go_sem,hwj];apply hK;clear hK K))
        refine ⟨rfl,j + 1,?_,⟨hltj,hRj⟩,by omega⟩
        refine weA ?_ ?_ <;> simp
      ·have he:j=r.length:=by (have:¬ j<r.length:=by simpa using hb);omega
       subst he
       rw [List.drop_length,hrl,List.drop_length,rowOk,Bool.true_and] at hRj
       repeat (first | refine nx ?_ | (refine z10 fun K hK=>?_;simp only [go_sem,hw];apply hK;clear hK K))
       refine ⟨rfl,i + 1,?_,⟨hlt,hRj⟩,by omega⟩
       refine weA ?_ ?_ <;> simp
    ·have hf:rowOk q r d=false:=by
      cases hx:rowOk q r d with
      | false=>rfl
      | true =>
       have:=z66 hx
       rw [this] at q2
       simp at q2
     rw [hf,Bool.false_and] at hRi
     rw [hRi]
     repeat (first | refine nx ?_ | (refine z10 fun K hK=>?_;simp only [go_sem];apply hK;clear hK K))
     refine z16 (by kernel_rfl) (by kernel_rfl) fun K hK=>?_
     simp only [go_sem,g1,g2,hni,q2]
     refine ⟨by kernel_rfl,hK _ ?_⟩
     clear hK K
     repeat (first | refine z12 rfl ?_ | refine z11 rfl ?_ | refine nx ?_ | (refine z10 fun K hK=>?_;simp only [go_sem];apply hK;clear hK K))
     simp only [go_sem]
   ·have he:i=M.length:=by (have:¬ i<M.length:=by simpa using hb);omega
    subst he
    rw [List.drop_length,hl,List.drop_length,shapedB] at hRi
    rw [hRi]
    repeat (first | refine nx ?_ | (refine z10 fun K hK=>?_;simp only [go_sem];apply hK;clear hK K))
    simp only [go_sem]
 ·have hf:R=false:=by
   rw [hR]
   cases hx:shapedB q M k.days with
   | false=>rfl
   | true =>
    have:=z38 hx
    rw [this] at q1
    simp at q1
  rw [hf]
  refine z18 69 Try.call24 Try.func24 rfl (by decide) fun J=>?_
  simp only [go_sem,St.start,Try.ntmps24,Try.results24,Kitchen.cells]
  repeat (first | refine z12 rfl ?_ | refine z11 rfl ?_ | refine nx ?_ | (refine z10 fun K hK=>?_;simp only [go_sem,q1,z25];apply hK;clear hK K))
  simp only [go_sem]
end Go.Ab
namespace Go.Ab
open Go.RowKit Go.Proofs
def sumN (f:Nat→Int):Nat→Int
 | 0=>0
 | n + 1=>sumN f n + f n
theorem z358 {f g:Nat→Int}:∀ n,(∀ i,i<n→f i=g i)→sumN f n=sumN g n
 | 0,_=>rfl
 | n + 1,h=>by rw [sumN,sumN,z358 n fun i hi=>h i (by omega),h n (by omega)]
theorem z279 {f:Nat→Int}:∀ n,(∀ i,i<n→0≤f i)→0≤sumN f n
 | 0,_=>Int.le_refl _
 | n + 1,h=>by
  have h1:=z279 n fun i hi=>h i (by omega)
  have h2:=h n (by omega)
  rw [sumN]
  omega
theorem z119 (l:List Int) (i:Nat):getI l (i:Int)=l.getD i 0:=by rw [getI,Int.toNat_natCast]
theorem z118 {l:List Int} {i:Nat} (hi:i<l.length) (x:Int) (j:Nat):getI (l.set i x) (j:Int)=if j=i then x else getI l (j:Int):=by
 rw [z119,z119,List.getD_eq_getElem?_getD,List.getD_eq_getElem?_getD,List.getElem?_set]
 by_cases h:i=j
 ·subst h;rw [if_pos rfl,if_pos hi,if_pos rfl];rfl
 ·rw [if_neg h,if_neg (fun e=>h e.symm)]
def wOf (k:Kitchen) (q:Int→Bool) (l:List Int):Int:=sumN (fun i=>if q (batAt k i).good then getI l (i:Int) else 0) k.batches.length
theorem z588 {k:Kitchen} {q:Int→Bool} {l:List Int} {i:Nat} (hi:i<k.batches.length) (hl:l.length=k.batches.length) (x:Int):wOf k q (l.set i x)=wOf k q l + if q (batAt k i).good then x - getI l (i:Int) else 0:=by
 have key:∀ n,sumN (fun j=>if q (batAt k j).good then getI (l.set i x) (j:Int) else 0) n=sumN (fun j=>if q (batAt k j).good then getI l (j:Int) else 0) n + if i<n then (if q (batAt k i).good then x - getI l (i:Int) else 0) else 0:=by
  intro n
  induction n with
  | zero=>simp [sumN]
  | succ n ih =>
   rw [sumN,sumN,ih,z118 (by omega)]
   by_cases h:n=i
   ·subst h
    rw [if_neg (Nat.lt_irrefl _),if_pos (Nat.lt_succ_self _),if_pos rfl]
    split <;> omega
   ·rw [if_neg h]
    by_cases h2:i<n
    ·simp only [if_pos h2,if_pos (show i<n + 1 by omega)]
     rw [Int.add_right_comm]
    ·simp only [if_neg h2,if_neg (show ¬ i<n + 1 by omega),Int.add_zero]
 rw [wOf,key,if_pos hi]
 rfl
theorem z725 {k:Kitchen} {good:Nat} {q:Int→Bool} {a:List Int × Int} {i:Nat} (hi:i<k.batches.length) (hl:a.1.length=k.batches.length) :
  wOf k q (takeStep k good a i).1=wOf k q a.1 - if q good then a.2 - (takeStep k good a i).2 else 0:=by
 unfold takeStep
 split
 ·rename_i hg
  dsimp only
  rw [z588 hi hl,hg]
  split <;> omega
 ·split <;> omega
theorem z814 {k:Kitchen} {good:Nat} {q:Int→Bool}:∀ (o:List Nat) {a:List Int × Int},(∀ x ∈ o,x<k.batches.length)→a.1.length=k.batches.length →
  wOf k q (o.foldl (takeStep k good) a).1=wOf k q a.1 - if q good then a.2 - (o.foldl (takeStep k good) a).2 else 0
 | [],a,_,_=>by simp
 | i::o,a,ho,hl=>by
  have hlen:(takeStep k good a i).1.length=k.batches.length:=by
   unfold takeStep
   split
   ·simpa using hl
   ·exact hl
  rw [List.foldl_cons,z814 o (fun x hx=>ho x (by simp [hx])) hlen,z725 (ho i (by simp)) hl]
  split <;> omega
theorem z525 {needs:List Int} (hn:∀ x ∈ needs,0≤x) (g:Nat):0≤getI needs (g:Int):=by
 unfold getI List.getD
 cases hy:needs[((g:Int)).toNat]? with
 | none=>simp
 | some y=>exact hn y (List.mem_of_getElem? hy)
theorem z709 {k:Kitchen} {day:Int} {l:List Int} {w:Int} (hl:l.length=k.batches.length) (ha:AmtOk l):∀ j,j≤k.batches.length →
  (wOf k (fun _=>true) (clrTo k day l w j).1 + (clrTo k day l w j).2=wOf k (fun _=>true) l + w)∧(∀ q,wOf k q (clrTo k day l w j).1≤wOf k q l)∧(∀ i:Nat,getI (clrTo k day l w j).1 (i:Int)≤getI l (i:Int)) ∧
   (∀ i:Nat,i<j→(batAt k i).last<day→getI (clrTo k day l w j).1 (i:Int)=0)∧(∀ i:Nat,i<k.batches.length→¬ (batAt k i).last<day→getI (clrTo k day l w j).1 (i:Int)=getI l (i:Int))
 | 0,_=>⟨rfl,fun q=>Int.le_refl _,fun i=>Int.le_refl _,fun i h=>by omega,fun _ _ _=>rfl⟩
 | j + 1,hj=>by
  obtain ⟨h1,h2,h3,h4,h5⟩:=z709 (day:=day) (w:=w) hl ha j (by omega)
  have hlj:=z45 k day l w j
  obtain ⟨k1,k2,k3⟩:=z51 (k:=k) (day:=day) (w:=w) ha j
  rw [clrTo]
  split
  ·rename_i hlast
   have hg:=k1.get (j:Int)
   dsimp only
   refine ⟨?_,fun q=>?_,fun i=>?_,fun i hi hlt=>?_,fun i hi hnl=>?_⟩
   ·rw [z588 (by omega) (by omega),if_pos rfl]
    omega
   ·rw [z588 (by omega) (by omega)]
    have:=h2 q
    split <;> omega
   ·rw [z118 (by omega)]
    split
    ·rename_i e
     subst e
     exact (ha.get _).1
    ·exact h3 i
   ·rw [z118 (by omega)]
    split
    ·rfl
    ·exact h4 i (by omega) hlt
   ·rw [z118 (by omega)]
    split
    ·rename_i e
     subst e
     exact absurd hlast hnl
    ·exact h5 i hi hnl
  ·rename_i hlast
   refine ⟨h1,h2,h3,fun i hi hlt=>?_,h5⟩
   by_cases e:i=j
   ·subst e;exact absurd hlt hlast
   ·exact h4 i (by omega) hlt
theorem z442 (k:Kitchen) (M:List (List Int)) (cnt:Nat→Nat→Int):∀ n,lastD k M cnt n≤n
 | 0=>Nat.le_refl _
 | n + 1=>by
  rw [lastD]
  split
  ·exact Nat.le_refl _
  ·exact Nat.le_succ_of_le (z442 k M cnt n)
theorem z236 (k:Kitchen) (M:List (List Int)) (cnt:Nat→Nat→Int):∀ n,(runSt k M cnt (lastD k M cnt n)).isSome=true
 | 0=>rfl
 | n + 1=>by
  rw [lastD]
  split
  ·assumption
  ·exact z236 k M cnt n
structure Kept (k:Kitchen) (M:List (List Int)) (cnt:Nat→Nat→Int) (d:Nat) (a:List Int × Int):Prop where
 total:wOf k (fun _=>true) (amtK k)=wOf k (fun _=>true) a.1 + a.2 + sumN (fun e=>sumN (fun g=>getI (needD k M cnt e) (g:Int)) k.allerg.length) d
 good:∀ g:Nat,g<k.allerg.length→wOf k (fun x=>decide (x=(g:Int))) a.1 + sumN (fun e=>getI (needD k M cnt e) (g:Int)) d≤wOf k (fun x=>decide (x=(g:Int))) (amtK k)
 le:∀ i:Nat,getI a.1 (i:Int)≤getI (amtK k) (i:Int)
 dead:∀ i:Nat,i<k.batches.length→(batAt k i).last<(d:Int) - 1→getI a.1 (i:Int)≤0
end Go.Ab
namespace Go.Ab
open Go.RowKit Go.Proofs
set_option maxHeartbeats 16000000
set_option maxRecDepth 20000
attribute [local irreducible] WalkL Walk
theorem z962 {k:Kitchen} (hg:KitGood k) {i:Nat} (h:i<k.batches.length):(0≤(batAt k i).good∧(batAt k i).good<k.allerg.length)∧(0≤(batAt k i).amount∧(batAt k i).amount≤1000000)∧(0≤(batAt k i).last∧(batAt k i).last≤30):=by
 have:batAt k i ∈ k.batches:=by rw [batAt,List.getD_eq_getElem?_getD,List.getElem?_eq_getElem h];exact List.getElem_mem h
 exact hg.batch _ this
structure KeptN (k:Kitchen) (G n D:Nat) (A L:Nat→Int) (W:Int) (nd:Nat→Nat→Int):Prop where
 amt:∀ i,i<n→0≤A i∧A i≤1000000
 left:∀ i,i<n→0≤L i∧L i≤A i
 waste:0≤W∧W≤100000000
 need:∀ d g,d<D→g<G→0≤nd d g∧nd d g≤1500000
 total:sumN A n=sumN L n + W + sumN (fun g=>sumN (fun d=>nd d g) D) G
 good:∀ g,g<G→sumN (fun d=>nd d g) D≤sumN (fun i=>if (batAt k i).good=(g:Int) then A i - L i else 0) n
 dead:∀ i,i<n→D=k.days.length→(batAt k i).last<(D:Int) - 1→L i≤0
end Go.Ab
namespace Go.Ab
open Go.RowKit Go.Proofs
theorem z362 (f:Nat→Int):∀ (j:Nat) (P:List Nat) (x:Nat) (T:List Nat),P.length=j →
  ∃ P1 P2,P=P1++P2∧sinkN f (P++x::T) j=P1++x::P2++T∧(∀ y ∈ P2,f x<f y)∧(P1=[]∨∃ Q y,P1=Q++[y]∧¬ f x<f y)
 | 0,P,x,T,h=>by
  rw [List.length_eq_zero_iff] at h
  subst h
  exact ⟨[],[],rfl,rfl,(fun y hy=>by cases hy),.inl rfl⟩
 | j + 1,P,x,T,h=>by
  have hne:P≠[]:=by intro e;subst e;simp at h
  obtain ⟨Q,y,rfl⟩:∃ Q y,P=Q++[y]:=⟨P.dropLast,P.getLast hne,(List.dropLast_concat_getLast hne).symm⟩
  have hQ:Q.length=j:=by simpa using h
  have g1:(Q++[y]++x::T).getD (j + 1) 0=x:=by
   rw [List.getD_eq_getElem?_getD,List.append_assoc,List.getElem?_append_right (by omega),hQ]
   simp
  have g0:(Q++[y]++x::T).getD j 0=y:=by
   rw [List.getD_eq_getElem?_getD,List.append_assoc,List.getElem?_append_right (by omega),hQ]
   simp
  rw [sinkN,g1,g0]
  by_cases hlt:f x<f y
  ·rw [if_pos hlt]
   have hsw:swapN (Q++[y]++x::T) j=Q++x::(y::T):=by
    rw [swapN,g1,g0,List.append_assoc,List.set_append_right _ _ (by omega),List.set_append_right _ _ (by omega),hQ]
    simp
   rw [hsw]
   obtain ⟨P1,P2,e1,e2,e3,e4⟩:=z362 f j Q x (y::T) hQ
   refine ⟨P1,P2++[y],by rw [e1,List.append_assoc],by rw [e2];simp,fun z hz=>?_,e4⟩
   rcases List.mem_append.1 hz with hz | hz
   ·exact e3 z hz
   ·rw [List.mem_singleton.1 hz];exact hlt
  ·rw [if_neg hlt]
   exact ⟨Q++[y],[],by simp,by simp,(fun z hz=>by cases hz),.inr ⟨Q,y,rfl,hlt⟩⟩
def Ahead (f:Nat→Int) (a b:Nat):Prop:=f a<f b∨(f a=f b∧a<b)
theorem z375 (f:Nat→Int) (n:Nat):∀ i,i<n→∃ S,insN f (List.range n) i=S++List.range' (i + 1) (n - (i + 1))∧S.Perm (List.range (i + 1))∧S.Pairwise (Ahead f)
 | 0,h=>by
  refine ⟨[0],?_,List.Perm.refl _,by simp⟩
  rw [insN,List.range_eq_range',show n=(n - 1) + 1 by omega,List.range'_succ]
  simp
 | i + 1,h=>by
  obtain ⟨S,e1,e2,e3⟩:=z375 f n i (by omega)
  have hl:S.length=i + 1:=by rw [e2.length_eq,List.length_range]
  rw [insN,e1,show n - (i + 1)=(n - (i + 1 + 1)) + 1 by omega,List.range'_succ]
  obtain ⟨P1,P2,p1,p2,p3,p4⟩:=z362 f (i + 1) S (i + 1) (List.range' (i + 1 + 1) (n - (i + 1 + 1))) hl
  subst p1
  have hlt:∀ z ∈ P1++P2,z<i + 1:=fun z hz=>List.mem_range.1 (e2.mem_iff.1 hz)
  refine ⟨P1++(i + 1)::P2,by rw [p2],?_,?_⟩
  ·rw [List.range_succ]
   exact List.perm_middle.trans ((e2.cons (i + 1)).trans (List.perm_append_comm (l₁:=[i + 1])))
  ·rw [List.pairwise_append] at e3 ⊢
   obtain ⟨a1,a2,a3⟩:=e3
   have hle:∀ a ∈ P1,f a≤f (i + 1):=fun a ha=>by
    rcases p4 with p4 | ⟨Q,y,rfl,hny⟩
    ·rw [p4] at ha;cases ha
    ·rcases List.mem_append.1 ha with hq | hq
     ·rw [List.pairwise_append] at a1
      have:=a1.2.2 a hq y (by simp)
      rcases this with h1 | h1 <;> omega
     ·rw [List.mem_singleton.1 hq];omega
   refine ⟨a1,List.pairwise_cons.2 ⟨fun b hb=>.inl (p3 b hb),a2⟩,fun a ha b hb=>?_⟩
   rcases List.mem_cons.1 hb with rfl | hb
   ·have h1:=hle a ha
    have h2:=hlt a (by simp [ha])
    by_cases e:f a=f (i + 1)
    ·exact .inr ⟨e,h2⟩
    ·exact .inl (by omega)
   ·exact a3 a ha b hb
theorem z288 (k:Kitchen):(ordK k).Perm (List.range k.batches.length)∧(ordK k).Pairwise (Ahead fun i=>(batAt k i).last):=by
 unfold ordK
 obtain ⟨n,hn⟩:∃ n,n=k.batches.length:=⟨_,rfl⟩
 rw [← hn]
 cases n with
 | zero=>exact ⟨List.Perm.refl _,List.Pairwise.nil⟩
 | succ n =>
  obtain ⟨S,e1,e2,e3⟩:=z375 (fun i=>(batAt k i).last) (n + 1) n (by omega)
  rw [Nat.add_sub_cancel,e1,Nat.sub_self,List.range'_zero,List.append_nil]
  exact ⟨e2,e3⟩
def sumO (f:Nat→Int):List Nat→Int
 | []=>0
 | i::o=>f i + sumO f o
theorem z820 {f:Nat→Int} {a b:List Nat} (h:a.Perm b):sumO f a=sumO f b:=by
 induction h with
 | nil=>rfl
 | cons x _ ih=>rw [sumO,sumO,ih]
 | swap x y l=>simp only [sumO];omega
 | trans _ _ h1 h2=>rw [h1,h2]
theorem z278 (f:Nat→Int):∀ a b,sumO f (a++b)=sumO f a + sumO f b
 | [],b=>by simp [sumO]
 | x::a,b=>by rw [List.cons_append,sumO,sumO,z278 f a b];omega
theorem z357 (f:Nat→Int):∀ n,sumO f (List.range n)=sumN f n
 | 0=>rfl
 | n + 1=>by rw [List.range_succ,z278,z357 f n,sumN];simp [sumO]
theorem z125 {f g:Nat→Int}:∀ o,(∀ i ∈ o,f i=g i)→sumO f o=sumO g o
 | [],_=>rfl
 | x::o,h=>by rw [sumO,sumO,h x (by simp),z125 o fun i hi=>h i (by simp [hi])]
theorem z821 {f g:Nat→Int}:∀ o,(∀ i ∈ o,f i≤g i)→sumO f o≤sumO g o
 | [],_=>Int.le_refl _
 | x::o,h=>by
  have:=h x (by simp)
  have:=z821 o fun i hi=>h i (by simp [hi])
  rw [sumO,sumO];omega
theorem z277 {f:Nat→Int}:∀ o,(∀ i ∈ o,0≤f i)→0≤sumO f o
 | [],_=>Int.le_refl _
 | x::o,h=>by
  have:=h x (by simp)
  have:=z277 o fun i hi=>h i (by simp [hi])
  rw [sumO];omega
def vO (k:Kitchen) (g:Nat) (t:Int) (l:List Int) (o:List Nat):Int:=sumO (fun i=>if (batAt k i).good=(g:Int)∧t≤(batAt k i).last then getI l (i:Int) else 0) o
theorem z1007 {k:Kitchen} {g:Nat} {t:Int} {l:List Int} {i:Nat} {x:Int} (hi:i<l.length) {o:List Nat} (ho:i ∉ o):vO k g t (l.set i x) o=vO k g t l o:=z125 o fun j hj=>by
 have e:getI (l.set i x) (j:Int)=getI l (j:Int):=by rw [z118 hi,if_neg (fun e=>ho (by rw [← e];exact hj))]
 rw [e]
theorem z217 (k:Kitchen) (g:Nat) (t:Int) (l:List Int) (i:Nat) (o:List Nat):vO k g t l (i::o)=(if (batAt k i).good=(g:Int)∧t≤(batAt k i).last then getI l (i:Int) else 0) + vO k g t l o:=rfl
theorem z808 {k:Kitchen} {g:Nat} {t:Int} {l:List Int} (h:AmtOk l) (o:List Nat):0≤vO k g t l o:=z277 o fun i _=>by
 have:=(h.get (i:Int)).1
 split <;> omega
theorem z964 {k:Kitchen} {g:Nat} {t u:Int} (htu:t≤u) {l:List Int} (h:AmtOk l) (o:List Nat):vO k g u l o≤vO k g t l o:=z821 o fun i _=>by
 have:=(h.get (i:Int)).1
 by_cases h1:(batAt k i).good=(g:Int)∧u≤(batAt k i).last
 ·rw [if_pos h1,if_pos ⟨h1.1,by omega⟩];exact Int.le_refl _
 ·rw [if_neg h1]
  split <;> omega
theorem z391 {k:Kitchen} {g:Nat}:∀ (o:List Nat) (l:List Int) (m:Int),o.Nodup→o.Pairwise (Ahead fun i=>(batAt k i).last)→(∀ x ∈ o,x<l.length)→AmtOk l→0≤m→(∀ i ∈ o,0≤(batAt k i).last)→m≤vO k g 0 l o →
  (o.foldl (takeStep k g) (l,m)).2=0∧∀ t:Int,0≤t→vO k g t (o.foldl (takeStep k g) (l,m)).1 o=min (vO k g t l o) (vO k g 0 l o - m)
 | [],l,m,_,_,_,_,hm,_,h=>by
  simp only [vO,sumO] at h ⊢
  have:m=0:=by omega
  subst this
  exact ⟨rfl,fun t _=>rfl⟩
 | i::o,l,m,hnd,hp,hx,ha,hm,hlast,h=>by
  rw [List.nodup_cons] at hnd
  rw [List.pairwise_cons] at hp
  have hil:=hx i (by simp)
  have hli:=ha.get (i:Int)
  rw [List.foldl_cons]
  -- one step
  obtain ⟨s1,s2,s3,s4⟩:=z107 (k:=k) (good:=g) (a:=(l,m)) (i:=i) ha hm
  have hkeep:∀ (a:List Int × Int) (o:List Nat),i ∉ o→i<a.1.length→(∀ x ∈ o,x<a.1.length)→getI (o.foldl (takeStep k g) a).1 (i:Int)=getI a.1 (i:Int):=by
   intro a o
   induction o generalizing a with
   | nil=>intro _ _ _;rfl
   | cons j o ih =>
    intro hni hia hxo
    rw [List.foldl_cons]
    have hlen:(takeStep k g a j).1.length=a.1.length:=by unfold takeStep;split <;> simp
    rw [ih _ (fun hc=>hni (by simp [hc])) (by rw [hlen];exact hia) (fun x hx=>by rw [hlen];exact hxo x (by simp [hx]))]
    unfold takeStep
    split
    ·rw [z118 (hxo j (by simp)),if_neg (fun e=>hni (by simp [e]))]
    ·rfl
  by_cases hg:(batAt k i).good=(g:Int)
  ·have hstep:takeStep k g (l,m) i=(l.set i (getI l (i:Int) - min m (getI l (i:Int))),m - min m (getI l (i:Int))):=by rw [takeStep,if_pos hg]
   rw [hstep] at s1 s2 s3 ⊢
   dsimp only at s1 s2 s3
   obtain ⟨x,hxd⟩:∃ x,x=min m (getI l (i:Int)):=⟨_,rfl⟩
   rw [← hxd] at s1 s2 s3 ⊢
   have hx1:0≤x∧x≤m∧x≤getI l (i:Int):=by omega
   have hv0:∀ t,vO k g t (l.set i (getI l (i:Int) - x)) o=vO k g t l o:=fun t=>z1007 hil hnd.1
   have h0:vO k g 0 l (i::o)=getI l (i:Int) + vO k g 0 l o:=by rw [z217,if_pos ⟨hg,hlast i (by simp)⟩]
   rw [h0] at h
   have hno:=z808 (k:=k) (g:=g) (t:=0) ha o
   obtain ⟨r1,r2⟩:=z391 o (l.set i (getI l (i:Int) - x)) (m - x) hnd.2 hp.2 (fun y hy=>by rw [s2];exact hx y (by simp [hy])) s1 s3 (fun y hy=>hlast y (by simp [hy])) (by rw [hv0];omega)
   refine ⟨r1,fun t ht=>?_⟩
   have hk:=hkeep (l.set i (getI l (i:Int) - x),m - x) o hnd.1 (by rw [s2];exact hil) (fun y hy=>by rw [s2];exact hx y (by simp [hy]))
   rw [z118 hil,if_pos rfl] at hk
   have r2t:=r2 t ht
   rw [hv0,hv0] at r2t
   have hmono:=z964 (k:=k) (g:=g) ht ha o
   by_cases hl2:t≤(batAt k i).last
   ·have z47:vO k g t l o=vO k g 0 l o:=z125 o fun j hj=>by
     have:(batAt k i).last≤(batAt k j).last:=by
      have q:=hp.1 j hj
      simp only [Ahead] at q
      omega
     by_cases hgj:(batAt k j).good=(g:Int)
     ·rw [if_pos ⟨hgj,by omega⟩,if_pos ⟨hgj,by omega⟩]
     ·rw [if_neg (fun e=>hgj e.1),if_neg (fun e=>hgj e.1)]
    rw [z217,z217,if_pos ⟨hg,hl2⟩,if_pos ⟨hg,hl2⟩,hk,r2t,h0]
    omega
   ·rw [z217,z217,if_neg (fun e=>hl2 e.2),if_neg (fun e=>hl2 e.2),r2t,h0]
    omega
  ·have hstep:takeStep k g (l,m) i=(l,m):=by rw [takeStep,if_neg hg]
   rw [hstep]
   have h0:∀ (t:Int) (c:List Int),vO k g t c (i::o)=vO k g t c o:=fun t c=>by rw [z217,if_neg (fun e=>hg e.1),Int.zero_add]
   rw [h0] at h
   obtain ⟨r1,r2⟩:=z391 o l m hnd.2 hp.2 (fun y hy=>hx y (by simp [hy])) ha hm (fun y hy=>hlast y (by simp [hy])) h
   exact ⟨r1,fun t ht=>by rw [h0,h0,h0];exact r2 t ht⟩
end Go.Ab
namespace Go.Ab
open Go.RowKit Go.Proofs
def vK (k:Kitchen) (g:Nat) (t:Int) (l:List Int):Int:=vO k g t l (List.range k.batches.length)
theorem z809 (k:Kitchen) (g:Nat) (t:Int) (l:List Int):vO k g t l (ordK k)=vK k g t l:=z820 (z288 k).1
theorem z221 {k:Kitchen} {g good:Nat} (hne:g≠good) (t:Int) (p:List Nat):∀ (o:List Nat) (a:List Int × Int),(∀ x ∈ o,x<a.1.length)→vO k g t (o.foldl (takeStep k good) a).1 p=vO k g t a.1 p
 | [],a,_=>rfl
 | i::o,a,h=>by
  have hlen:(takeStep k good a i).1.length=a.1.length:=by unfold takeStep;split <;> simp
  rw [List.foldl_cons,z221 hne t p o _ (fun x hx=>by rw [hlen];exact h x (by simp [hx]))]
  unfold takeStep
  split
  ·rename_i hg
   refine z125 p fun j _=>?_
   have hil:=h i (by simp)
   by_cases e:j=i
   ·subst e
    rw [if_neg (fun c=>hne (by have:=c.1;omega)),if_neg (fun c=>hne (by have:=c.1;omega))]
   ·have e2:=z118 hil (getI a.1 (i:Int) - min a.2 (getI a.1 (i:Int))) j
    rw [if_neg e] at e2
    dsimp only
    rw [e2]
  ·rfl
theorem z356 {k:Kitchen} (hg:KitGood k) {needs C:List Int} (hl:C.length=k.batches.length) (ha:AmtOk C) (hn:∀ x ∈ needs,0≤x):∀ G,
  ((takeTo k (ordK k) needs C G).isSome=true↔∀ g,g<G→getI needs (g:Int)≤vK k g 0 C) ∧
    ∀ c,takeTo k (ordK k) needs C G=some c→(∀ g,g<G→∀ t:Int,0≤t→vK k g t c=min (vK k g t C) (vK k g 0 C - getI needs (g:Int)))∧∀ g,G≤g→∀ t:Int,vK k g t c=vK k g t C
 | 0=>⟨⟨fun _ g h=>by omega,fun _=>rfl⟩,fun c hc=>by cases hc;exact ⟨fun g h=>by omega,fun _ _ _=>rfl⟩⟩
 | G + 1=>by
  obtain ⟨ih1,ih2⟩:=z356 hg hl ha hn G
  obtain ⟨o1,o2⟩:=z288 k
  have hnd:(ordK k).Nodup:=o1.nodup_iff.2 List.nodup_range
  rw [takeTo]
  cases hx:takeTo k (ordK k) needs C G with
  | none =>
   rw [hx] at ih1
   refine ⟨⟨(fun h=>by cases h),fun h=>?_⟩,(fun c hc=>by cases hc)⟩
   have:=ih1.2 fun g hgl=>h g (by omega)
   cases this
  | some d =>
   obtain ⟨d1,d2⟩:=z124 ha hn G d hx
   obtain ⟨v1,v2⟩:=ih2 d hx
   rw [hx] at ih1
   have i1:=ih1.1 rfl
   have hng:=z525 hn G
   have hxl:∀ x ∈ ordK k,x<d.length:=fun x hx=>by rw [d2,hl];exact z68 hx
   have hw:=z814 (k:=k) (good:=G) (q:=fun x=>decide (x=(G:Int))) (ordK k) (a:=(d,getI needs (G:Int))) (fun x hx=>z68 hx) (by rw [d2,hl])
   obtain ⟨k1,k2,k3,k4⟩:=z263 (k:=k) (good:=G) (ordK k) (a:=(d,getI needs (G:Int))) d1 hng
   have hv0:vK k G 0 d=wOf k (fun x=>decide (x=(G:Int))) d:=by
    rw [vK,vO,z357,wOf]
    refine z358 _ fun i hi=>?_
    have:=(z962 hg hi).2.2.1
    by_cases e:(batAt k i).good=(G:Int)
    ·rw [if_pos ⟨e,this⟩,if_pos (decide_eq_true e)]
    ·rw [if_neg (fun c=>e c.1),if_neg (by simpa using e)]
   have hpos:0≤wOf k (fun x=>decide (x=(G:Int))) ((ordK k).foldl (takeStep k G) (d,getI needs (G:Int))).1:=z279 _ fun i _=>by
    have:=(k1.get (i:Int)).1
    split <;> omega
   dsimp only at hw ⊢
   rw [if_pos (decide_eq_true rfl)] at hw
   have edf:=fun h=>z391 (k:=k) (g:=G) (ordK k) d (getI needs (G:Int)) hnd o2 hxl d1 hng (fun i hi=>(z962 hg (z68 hi)).2.2.1) h
   rw [z809] at edf
   have hvG:=v2 G (Nat.le_refl _) 0
   by_cases hz:(takeG k (ordK k) G d (getI needs (G:Int))).2 > 0
   ·rw [if_pos hz]
    refine ⟨⟨(fun h=>by cases h),fun h=>?_⟩,(fun c hc=>by cases hc)⟩
    have:=(edf (by rw [hvG];exact h G (by omega))).1
    unfold takeG at hz
    omega
   ·rw [if_neg hz]
    have hm:((ordK k).foldl (takeStep k G) (d,getI needs (G:Int))).2=0:=by unfold takeG at hz;omega
    rw [hm] at hw
    have hle:getI needs (G:Int)≤vK k G 0 d:=by omega
    refine ⟨⟨fun _ g hgl=>?_,fun _=>rfl⟩,fun c hc=>?_⟩
    ·by_cases e:g=G
     ·subst e;rw [← hvG];exact hle
     ·exact i1 g (by omega)
    ·cases hc
     refine ⟨fun g hgl t ht=>?_,fun g hgl t=>?_⟩
     ·by_cases e:g=G
      ·subst e
       have:=(edf hle).2 t ht
       rw [z809,z809] at this
       rw [takeG,this,v2 g (Nat.le_refl _),v2 g (Nat.le_refl _)]
      ·have:=z221 (k:=k) (g:=g) (good:=G) e t (List.range k.batches.length) (ordK k) (d,getI needs (G:Int)) hxl
       rw [takeG]
       exact this.trans (v1 g (by omega) t ht)
     ·have:=z221 (k:=k) (g:=g) (good:=G) (by omega) t (List.range k.batches.length) (ordK k) (d,getI needs (G:Int)) hxl
      rw [takeG]
      exact this.trans (v2 g (by omega) t)
theorem z1047 {k:Kitchen} {d:Nat} {l:List Int} {w:Int} (hl:l.length=k.batches.length) (ha:AmtOk l) (g:Nat) (t:Int):vK k g t (clrTo k (d:Int) l w k.batches.length).1=vK k g (max t (d:Int)) l:=by
 obtain ⟨_,_,_,h4,h5⟩:=z709 (day:=(d:Int)) (w:=w) hl ha k.batches.length (Nat.le_refl _)
 refine z125 _ fun i hi=>?_
 have hi:=List.mem_range.1 hi
 by_cases hd:(batAt k i).last<(d:Int)
 ·rw [h4 i hi hd,if_neg (fun c:(batAt k i).good=(g:Int)∧max t (d:Int)≤(batAt k i).last=>by have:=c.2;omega)]
  split <;> rfl
 ·rw [h5 i hi hd]
  by_cases hc:(batAt k i).good=(g:Int)∧t≤(batAt k i).last
  ·rw [if_pos hc,if_pos ⟨hc.1,by have:=hc.2;omega⟩]
  ·rw [if_neg hc,if_neg (fun c=>hc ⟨c.1,by have:=c.2;omega⟩)]
def sumF (f:Nat→Int):Nat→Nat→Int
 | _,0=>0
 | t,c + 1=>f t + sumF f (t + 1) c
theorem z280 {f:Nat→Int}:∀ c t,(∀ i,t≤i→i<t + c→0≤f i)→0≤sumF f t c
 | 0,_,_=>Int.le_refl _
 | c + 1,t,h=>by
  have:=h t (Nat.le_refl _) (by omega)
  have:=z280 (f:=f) c (t + 1) fun i h1 h2=>h i (by omega) (by omega)
  rw [sumF];omega
theorem z425 {f:Nat→Int} {t D:Nat} (h:t<D):sumF f t (D - t)=f t + sumF f (t + 1) (D - (t + 1)):=by
 rw [show D - t=(D - (t + 1)) + 1 by omega,sumF]
theorem z822 {f:Nat→Int} {D:Nat} {d:Nat} (h:∀ i,d≤i→i<D→0≤f i):∀ j,d + j≤D→sumF f (d + j) (D - (d + j))≤sumF f d (D - d)
 | 0,_=>Int.le_refl _
 | j + 1,hj=>by
  have ih:=z822 h j (by omega)
  rw [z425 (show d + j<D by omega)] at ih
  have:=h (d + j) (by omega) (by omega)
  rw [show d + (j + 1)=d + j + 1 by omega]
  omega
structure DayStep (k:Kitchen) (l l':List Int) (d:Nat) (nd:Nat→Int):Prop where
 val:∀ g,g<k.allerg.length→∀ t:Nat,d≤t→vK k g (t:Int) l'=min (vK k g (t:Int) l) (vK k g (d:Int) l - nd g)
theorem z903 {k:Kitchen} (hg:KitGood k) {M:List (List Int)} (hM:shapedB (menuB k) M k.days=true) {cnt:Nat→Nat→Int} (hc:CntOk k cnt) {d:Nat} {b:List Int × Int} (hd:d<M.length) (hb:runSt k M cnt d=some b) :
  ((runSt k M cnt (d + 1)).isSome=true↔∀ g,g<k.allerg.length→getI (needD k M cnt d) (g:Int)≤vK k g (d:Int) b.1) ∧
    ∀ a,runSt k M cnt (d + 1)=some a→DayStep k b.1 a.1 d fun g=>getI (needD k M cnt d) (g:Int):=by
 obtain ⟨r1,r2,r3,r4⟩:=z264 hg hM hc d b (by omega) hb
 obtain ⟨r,hr⟩:∃ r,M[d]?=some r:=⟨_,List.getElem?_eq_getElem hd⟩
 obtain ⟨_,_,hdo⟩:=z148 hg hM hc hr
 have hnd:needD k M cnt d=needL k r (cnt d):=by rw [needD,List.getD,hr];rfl
 have hn0:∀ x ∈ needD k M cnt d,0≤x:=fun x hx=>by rw [hnd] at hx;exact (z53 hg hdo x hx).1
 obtain ⟨c1,c2,c3⟩:=z51 (k:=k) (day:=(d:Int)) (w:=b.2) r1 k.batches.length
 have c4:=z45 k (d:Int) b.1 b.2 k.batches.length
 obtain ⟨t1,t2⟩:=z356 hg (C:=(clrTo k (d:Int) b.1 b.2 k.batches.length).1) (by omega) c1 hn0 k.allerg.length
 have hv:∀ g t,vK k g t (clrTo k (d:Int) b.1 b.2 k.batches.length).1=vK k g (max t (d:Int)) b.1:=fun g t=>z1047 r2 r1 g t
 have e:runSt k M cnt (d + 1)=(takeTo k (ordK k) (needD k M cnt d) (clrTo k (d:Int) b.1 b.2 k.batches.length).1 k.allerg.length).map fun l=>(l,(clrTo k (d:Int) b.1 b.2 k.batches.length).2):=by rw [runSt,hb];rfl
 rw [e]
 refine ⟨?_,fun a ha=>?_⟩
 ·rw [Option.isSome_map,t1]
  refine forall_congr' fun g=>forall_congr' fun _=>?_
  rw [hv,show max (0:Int) (d:Int)=(d:Int) by omega]
 ·obtain ⟨l,hl,rfl⟩:=Option.map_eq_some_iff.1 ha
  refine ⟨fun g hgl t ht=>?_⟩
  have:=(t2 l hl).1 g hgl (t:Int) (by omega)
  rw [hv,hv,show max (t:Int) (d:Int)=(t:Int) by omega,show max (0:Int) (d:Int)=(d:Int) by omega] at this
  exact this
def Enough (k:Kitchen) (nd:Nat→Nat→Int) (d D:Nat) (l:List Int):Prop:=∀ g,g<k.allerg.length→∀ t,d≤t→t<D→sumF (fun e=>nd e g) t (D - t)≤vK k g (t:Int) l
theorem z47 {k:Kitchen} (hg:KitGood k) {M:List (List Int)} (hM:shapedB (menuB k) M k.days=true) {cnt:Nat→Nat→Int} (hc:CntOk k cnt) {D:Nat} (hD:D≤M.length) :
  (runSt k M cnt D).isSome=true↔Enough k (fun e g=>getI (needD k M cnt e) (g:Int)) 0 D (amtK k):=by
 obtain ⟨nd,hnd⟩:∃ nd:Nat→Nat→Int,nd=fun (e g:Nat)=>getI (needD k M cnt e) (g:Int):=⟨_,rfl⟩
 rw [← hnd]
 have hn0:∀ e g,e<D→0≤nd e g:=fun e g he=>by
  rw [hnd]
  obtain ⟨r,hr⟩:∃ r,M[e]?=some r:=⟨_,List.getElem?_eq_getElem (by omega)⟩
  obtain ⟨_,_,hdo⟩:=z148 hg hM hc hr
  have h2:needD k M cnt e=needL k r (cnt e):=by rw [needD,List.getD,hr];rfl
  exact z525 (fun x hx=>by rw [h2] at hx;exact (z53 hg hdo x hx).1) g
 have step:∀ d b,d<D→runSt k M cnt d=some b→((runSt k M cnt (d + 1)).isSome=true↔∀ g,g<k.allerg.length→nd d g≤vK k g (d:Int) b.1)∧∀ a,runSt k M cnt (d + 1)=some a→DayStep k b.1 a.1 d (nd d):=fun d b hd hb=>by
  rw [hnd]
  exact z903 hg hM hc (by omega) hb
 constructor
 ·intro h
  -- from the last day back
  have hsome:∀ s,s≤D→∃ a,runSt k M cnt s=some a:=fun s hs=>by
   cases hx:runSt k M cnt s with
   | some a=>exact ⟨a,rfl⟩
   | none=>rw [z226 hx hs] at h;cases h
  have key:∀ j,j≤D→∀ a,runSt k M cnt (D - j)=some a→Enough k nd (D - j) D a.1:=by
   intro j
   induction j with
   | zero=>intro _ a _ g _ t h1 h2;omega
   | succ j ih =>
    intro hj a ha g hgl t ht1 ht2
    obtain ⟨s,hs⟩:∃ s,s=D - (j + 1):=⟨_,rfl⟩
    have hs1:D - j=s + 1:=by omega
    rw [← hs] at ha ht1
    rw [hs1] at ih
    obtain ⟨a',ha'⟩:=hsome (s + 1) (by omega)
    obtain ⟨p1,p2⟩:=step s a (by omega) ha
    have hneed:=p1.1 (by rw [ha'];rfl) g hgl
    have hval:=(p2 a' ha').val g hgl
    have en:=ih (by omega) a' ha' g hgl
    by_cases e:t=s
    ·subst e
     rw [z425 ht2]
     by_cases e2:t + 1<D
     ·have h1:=en (t + 1) (Nat.le_refl _) e2
      have h2:=hval (t + 1) (by omega)
      omega
     ·rw [show D - (t + 1)=0 by omega,sumF]
      omega
    ·have h1:=en t (by omega) ht2
     have h2:=hval t (by omega)
     omega
  have:=key D (Nat.le_refl _) (amtK k,0) (by rw [Nat.sub_self];rfl)
  rwa [Nat.sub_self] at this
 ·intro h
  have key:∀ s,s≤D→∃ a,runSt k M cnt s=some a∧Enough k nd s D a.1:=by
   intro s
   induction s with
   | zero=>intro _;exact ⟨(amtK k,0),rfl,h⟩
   | succ s ih =>
    intro hs
    obtain ⟨a,ha,en⟩:=ih (by omega)
    obtain ⟨p1,p2⟩:=step s a (by omega) ha
    have hs2:(runSt k M cnt (s + 1)).isSome=true:=p1.2 fun g hgl=>by
     have h1:=en g hgl s (Nat.le_refl _) (by omega)
     rw [z425 (by omega:s<D)] at h1
     have h2:=z280 (f:=fun e=>nd e g) (D - (s + 1)) (s + 1) fun i h1 h2=>hn0 i g (by omega)
     omega
    obtain ⟨a',ha'⟩:=Option.isSome_iff_exists.1 hs2
    refine ⟨a',ha',fun g hgl t ht1 ht2=>?_⟩
    have hval:=(p2 a' ha').val g hgl t (by omega)
    have h1:=en g hgl t (by omega) ht2
    have h2:=en g hgl s (Nat.le_refl _) (by omega)
    rw [z425 (by omega:s<D)] at h2
    have h3:=z822 (f:=fun e=>nd e g) (D:=D) (d:=s + 1) (fun i h1 h2=>hn0 i g h2) (t - (s + 1)) (by omega)
    rw [show s + 1 + (t - (s + 1))=t by omega] at h3
    omega
  obtain ⟨a,ha,_⟩:=key D (Nat.le_refl _)
  rw [ha]
  rfl
theorem z933 {k:Kitchen} {M:List (List Int)} {cnt:Nat→Nat→Int} {d n:Nat} (h:d≤n):d≤lastD k M cnt n↔(runSt k M cnt d).isSome=true:=by
 constructor
 ·intro hd
  have hs:=z236 k M cnt n
  cases hx:runSt k M cnt d with
  | some a=>rfl
  | none=>rw [z226 hx hd] at hs;cases hs
 ·intro hs
  induction h with
  | refl=>rw [z203 hs];exact Nat.le_refl _
  | @step m hm ih =>
   rw [lastD]
   split
   ·exact Nat.le_succ_of_le hm
   ·exact ih
end Go.Ab
namespace Go.Ab
open Go.RowKit Go.Proofs
set_option maxHeartbeats 16000000
set_option maxRecDepth 20000
attribute [local irreducible] WalkL Walk
theorem z1057 (k:Kitchen) (M C:List (List Int)) (hs:KitSmall k) (hM:M.length<2 ^ 30) (hMr:∀ r ∈ M,r.length<2 ^ 30) (hC:C.length<2 ^ 30) (hCr:∀ r ∈ C,r.length<2 ^ 30) :
  Fn Try.prog 28 [.agg k.cells,.sl (listRows M),.sl (listRows C)] (.tup [.i ((cookP k M C).2.2.1:Nat),.bool ((cookP k M C).2.2.2 == 0)]):=by
 have h25:=z1058 k M C hs hM hMr hC hCr
 obtain ⟨⟨L,w,d,e⟩,hL⟩:∃ P,P=cookP k M C:=⟨_,rfl⟩
 rw [← hL] at h25 ⊢
 dsimp only at h25 ⊢
 rw [Kitchen.cells] at h25 ⊢
 refine z18 24 Try.call28 Try.func28 rfl (by decide) fun J=>?_
 simp only [go_sem,St.start,Try.ntmps28,Try.results28]
 repeat (first | refine nx ?_ | (refine z10 fun K hK=>?_;simp only [go_sem];(repeat (first | (refine ⟨_,.lent (hf:=h25) (hd:=rfl) (hr:=rfl),?_⟩;simp only [go_sem]) | (refine ⟨_,.given (hf:=h25) (hd:=rfl) (ha:=rfl),?_⟩;simp only [go_sem])));apply hK;clear hK K))
 simp only [go_sem]
theorem z366 {k:Kitchen} (hg:KitGood k) {ds:List Int} {c c':Nat→Int} (hd:DayOk k ds c') (good:Nat):∀ n,n≤ds.length→(∀ g,g<n→c g≤c' g)→needG k ds c good n≤needG k ds c' good n
 | 0,_,_=>Int.le_refl _
 | n + 1,hn,h=>by
  have ih:=z366 hg hd good n (by omega) fun g hg=>h g (by omega)
  obtain ⟨m,hm,hml⟩:=hd.dish n (by omega)
  have e:getI ds (n:Int)=m:=by rw [z119,List.getD_eq_getElem?_getD,hm];rfl
  have q:=z310 hg hml (good:Int)
  have:=Int.mul_le_mul_of_nonneg_left (h n (by omega)) q.1
  rw [needG,needG,e]
  omega
theorem z497 {f f':Nat→Int}:∀ c t,(∀ i,t≤i→i<t + c→f i≤f' i)→sumF f t c≤sumF f' t c
 | 0,_,_=>Int.le_refl _
 | c + 1,t,h=>by
  have:=h t (Nat.le_refl _) (by omega)
  have:=z497 (f:=f) (f':=f') c (t + 1) fun i h1 h2=>h i (by omega) (by omega)
  rw [sumF,sumF];omega
theorem z296 {k:Kitchen} (hg:KitGood k) {M:List (List Int)} (hM:shapedB (menuB k) M k.days=true) {c c':Nat→Nat→Int} (hc:CntOk k c) (hc':CntOk k c') (h:∀ d g,d<k.days.length→g<(k.days.getD d []).length→c d g≤c' d g) :
  lastD k M c' M.length≤lastD k M c M.length:=by
 have hle:=z442 k M c' M.length
 rw [z933 hle,z47 hg hM hc hle]
 have h1:=(z47 hg hM hc' hle).1 (z236 k M c' M.length)
 intro g hgl t h2 h3
 refine Int.le_trans (z497 _ _ fun i hi1 hi2=>?_) (h1 g hgl t h2 h3)
 obtain ⟨r,hr⟩:∃ r,M[i]?=some r:=⟨_,List.getElem?_eq_getElem (by omega)⟩
 obtain ⟨p1,p2,p3⟩:=z148 hg hM hc' hr
 have e:∀ c:Nat→Nat→Int,getI (needD k M c i) (g:Int)=needG k r (c i) g r.length:=fun c=>by
  rw [needD,List.getD_eq_getElem?_getD,hr,Option.getD_some,needL,z119,List.getD_eq_getElem?_getD,List.getElem?_map,List.getElem?_range hgl]
  rfl
 dsimp only
 rw [e,e]
 exact z366 hg p3 g r.length (Nat.le_refl _) fun q hq=>h i q p1 (by omega)
theorem z191 {k:Kitchen} {C:List (List Int)} (hC:shapedB countB C k.days=true) {d g:Nat} (hd:d<k.days.length) (hgl:g<(k.days.getD d []).length):(dinAt k d g).count.lo≤cntOf C d g∧cntOf C d g≤(dinAt k d g).count.hi:=by
 have hl:=z38 hC
 obtain ⟨r,hr⟩:∃ r,C[d]?=some r:=⟨_,List.getElem?_eq_getElem (by omega)⟩
 obtain ⟨x,hx,hro⟩:=z108 hC hr
 have e:k.days.getD d []=x:=by rw [List.getD_eq_getElem?_getD,hx];rfl
 rw [e] at hgl
 have hrl:=z66 hro
 obtain ⟨n,hn⟩:∃ n,r[g]?=some n:=⟨_,List.getElem?_eq_getElem (by omega)⟩
 obtain ⟨y,hy,hq⟩:=z197 hro hn
 have hw:=z37.1 hq
 have e2:cntOf C d g=n:=by rw [cntOf,List.getD_eq_getElem?_getD,hr,Option.getD_some,z119,List.getD_eq_getElem?_getD,hn];rfl
 have e3:dinAt k d g=y:=by rw [dinAt,e,List.getD_eq_getElem?_getD,hy];rfl
 rw [e2,e3]
 exact hw
theorem z507 {q:Int→Diners→Bool}:∀ {l:List Int} {d:List Diners} {g:Nat} {v:Int},rowOk q l d=true→(∀ x,d[g]?=some x→q v x=true)→rowOk q (l.set g v) d=true
 | [],[],_,_,_,_=>rfl
 | n::l,x::d,0,v,h,hv=>by
  rw [rowOk,Bool.and_eq_true] at h
  rw [List.set_cons_zero,rowOk,hv x rfl,h.2]
  rfl
 | n::l,x::d,g + 1,v,h,hv=>by
  rw [rowOk,Bool.and_eq_true] at h
  rw [List.set_cons_succ,rowOk,h.1,z507 h.2 (fun y hy=>hv y (by simpa using hy))]
  rfl
 | [],_::_,_,_,h,_=>by cases h
 | _::_,[],_,_,h,_=>by cases h
theorem z363 {q:Int→Diners→Bool}:∀ {l:List (List Int)} {ds:List (List Diners)} {d:Nat} {r:List Int},shapedB q l ds=true→(∀ x,ds[d]?=some x→rowOk q r x=true)→shapedB q (l.set d r) ds=true
 | [],[],_,_,_,_=>rfl
 | n::l,x::ds,0,r,h,hv=>by
  rw [shapedB,Bool.and_eq_true] at h
  rw [List.set_cons_zero,shapedB,hv x rfl,h.2]
  rfl
 | n::l,x::ds,d + 1,r,h,hv=>by
  rw [shapedB,Bool.and_eq_true] at h
  rw [List.set_cons_succ,shapedB,h.1,z363 h.2 (fun y hy=>hv y (by simpa using hy))]
  rfl
 | [],_::_,_,_,h,_=>by cases h
 | _::_,[],_,_,h,_=>by cases h
structure Low (k:Kitchen) (C R:List (List Int)):Prop where
 sh:shapedB countB R k.days=true
 le:∀ d g,cntOf R d g≤cntOf C d g
theorem z212 {R:List (List Int)} {d g:Nat} {r:List Int} {n:Int} (hr:R[d]?=some r) (hn:r[g]?=some n):cntOf R d g=n:=by
 rw [cntOf,List.getD_eq_getElem?_getD,hr,Option.getD_some,z119,List.getD_eq_getElem?_getD,hn];rfl
theorem z979 {k:Kitchen} {C R:List (List Int)} (h:Low k C R) {d g:Nat} {r:List Int} (hr:R[d]?=some r) {n v:Int} (hn:r[g]?=some n) (hlo:(dinAt k d g).count.lo≤v) (hv:v≤n):Low k C (R.set d (r.set g v)):=by
 obtain ⟨x,hx,hro⟩:=z108 h.sh hr
 refine ⟨z363 h.sh fun x' hx'=>?_,fun d' g'=>?_⟩
 ·rw [hx] at hx';cases hx'
  refine z507 hro fun y hy=>?_
  obtain ⟨y',hy',hq⟩:=z197 hro hn
  rw [hy] at hy';cases hy'
  have hw:=z37.1 hq
  have e:k.days.getD d []=x:=by rw [List.getD_eq_getElem?_getD,hx];rfl
  have e3:dinAt k d g=y:=by rw [dinAt,e,List.getD_eq_getElem?_getD,hy];rfl
  rw [e3] at hlo
  exact z37.2 ⟨hlo,by omega⟩
 ·have hle:=h.le d' g'
  have hd:=(List.getElem?_eq_some_iff.1 hr).1
  have hg:=(List.getElem?_eq_some_iff.1 hn).1
  by_cases e:d'=d
  ·subst e
   have h1:(R.set d' (r.set g v))[d']?=some (r.set g v):=List.getElem?_set_self hd
   by_cases e2:g'=g
   ·subst e2
    rw [z212 h1 (List.getElem?_set_self hg)]
    rw [z212 hr hn] at hle
    omega
   ·have:cntOf (R.set d' (r.set g v)) d' g'=cntOf R d' g':=by
     rw [cntOf,cntOf,List.getD_eq_getElem?_getD,h1,Option.getD_some,List.getD_eq_getElem?_getD,hr,Option.getD_some,z119,z119,List.getD_eq_getElem?_getD,List.getD_eq_getElem?_getD,List.getElem?_set_ne (Ne.symm e2)]
    rw [this];exact hle
  ·have:cntOf (R.set d (r.set g v)) d' g'=cntOf R d' g':=by
    rw [cntOf,cntOf,List.getD_eq_getElem?_getD,List.getElem?_set_ne (Ne.symm e),← List.getD_eq_getElem?_getD]
   rw [this];exact hle
theorem z667 {k:Kitchen} {C R:List (List Int)} (h:Low k C R) {d:Nat} {r:List Int} (hr:R[d]?=some r):d<k.days.length∧r.length=(k.days.getD d []).length:=by
 obtain ⟨x,hx,hro⟩:=z108 h.sh hr
 refine ⟨(List.getElem?_eq_some_iff.1 hx).1,?_⟩
 rw [z66 hro,List.getD_eq_getElem?_getD,hx];rfl
theorem z1021 {k:Kitchen} {M C R:List (List Int)} (hop:openK k M=0) (hC:shapedB countB C k.days=true) (h:Low k C R) :
  (mostK k M≤(cookP k M C).2.2.1∧(cookP k M C).2.2.1≤leastK k M∧(cookP k M C).2.2.1≤(cookP k M R).2.2.1∧leastK k M≤k.days.length)∧(cookP k M C).2.2.2=0∧(cookP k M R).2.2.2=0:=by
 obtain ⟨hg,hsh⟩:=z515 hop
 have e1:cookE k M C=0:=by rw [cookE,if_pos hop,if_pos hC]
 have e2:cookE k M R=0:=by rw [cookE,if_pos hop,if_pos h.sh]
 have c1:=z708 hg hC
 have c2:=z708 hg h.sh
 rw [cookP,if_pos e1,cookP,if_pos e2]
 dsimp only
 refine ⟨⟨z296 hg hsh c1 (z861 hg) fun d g hd hgl=>(z191 hC hd hgl).2,z296 hg hsh (z980 hg) c1 fun d g hd hgl=>(z191 hC hd hgl).1,z296 hg hsh c2 c1 fun d g _ _=>h.le d g,?_⟩,rfl,rfl⟩
 have:=z442 k M (fun d g=>(dinAt k d g).count.lo) M.length
 have:=z38 hsh
 unfold leastK
 omega
end Go.Ab
namespace Go.Ab
open Go.RowKit Go.Proofs
set_option maxHeartbeats 16000000
set_option maxRecDepth 20000
attribute [local irreducible] WalkL Walk
theorem z186 (m:List (Option Blk)) (x:DV):liveB m (.d x)=true:=rfl
theorem zf5 (k:Kitchen) (M C:List (List Int)) (no:Int) (less:List Int) (hs:KitSmall k) (hM:M.length<2 ^ 30) (hMr:∀ r ∈ M,r.length<2 ^ 30) (hC:C.length<2 ^ 30) (hCr:∀ r ∈ C,r.length<2 ^ 30) (hless:less.length<2 ^ 30) :
  Fn Try.prog 5 [.agg k.cells,.agg [.sl (listRows M),.sl (listRows C),.i no],.sl (intRows less)] (.bool true):=by
 have h22:=z1101 k hs
 have h13:=z1105
 have h12a:=z1059 M hM
 have h12b:=z1059 C hC
 cases q1:readyB k with
 | false =>
  rw [q1] at h22
  rw [Kitchen.cells] at h22 ⊢
  refine z18 180 Try.call5 Try.func5 rfl (by decide) fun J=>?_
  simp only [go_sem,St.start,Try.ntmps5,Try.results5]
  repeat (first | refine z12 rfl ?_ | refine z11 rfl ?_ | refine nx ?_ | (refine z10 fun K hK=>?_;simp only [go_sem];(repeat (first | (refine ⟨_,.lent (hf:=h22) (hd:=rfl) (hr:=rfl),?_⟩;simp only [go_sem]) | (refine ⟨_,.lent (hf:=h13) (hd:=rfl) (hr:=rfl),?_⟩;simp only [go_sem]) | (refine ⟨_,.given (hf:=h22) (hd:=rfl) (ha:=rfl),?_⟩;simp only [go_sem]) | (refine ⟨_,.given (hf:=h13) (hd:=rfl) (ha:=rfl),?_⟩;simp only [go_sem])));apply hK;clear hK K))
  simp only [go_sem]
 | true =>
 rw [q1] at h22
 cases q2:farRows M with
 | true =>
  rw [q2] at h12a
  rw [Kitchen.cells] at h22 ⊢
  refine z18 180 Try.call5 Try.func5 rfl (by decide) fun J=>?_
  simp only [go_sem,St.start,Try.ntmps5,Try.results5]
  repeat (first | refine z12 rfl ?_ | refine z11 rfl ?_ | refine nx ?_ | (refine z10 fun K hK=>?_;simp only [go_sem];(repeat (first | (refine ⟨_,.lent (hf:=h22) (hd:=rfl) (hr:=rfl),?_⟩;simp only [go_sem]) | (refine ⟨_,.lent (hf:=h12a) (hd:=rfl) (hr:=rfl),?_⟩;simp only [go_sem]) | (refine ⟨_,.lent (hf:=h13) (hd:=rfl) (hr:=rfl),?_⟩;simp only [go_sem]) | (refine ⟨_,.given (hf:=h22) (hd:=rfl) (ha:=rfl),?_⟩;simp only [go_sem]) | (refine ⟨_,.given (hf:=h12a) (hd:=rfl) (ha:=rfl),?_⟩;simp only [go_sem]) | (refine ⟨_,.given (hf:=h13) (hd:=rfl) (ha:=rfl),?_⟩;simp only [go_sem])));apply hK;clear hK K))
  simp only [go_sem]
 | false =>
 rw [q2] at h12a
 cases q3:farRows C with
 | true =>
  rw [q3] at h12b
  rw [Kitchen.cells] at h22 ⊢
  refine z18 180 Try.call5 Try.func5 rfl (by decide) fun J=>?_
  simp only [go_sem,St.start,Try.ntmps5,Try.results5]
  repeat (first | refine z12 rfl ?_ | refine z11 rfl ?_ | refine nx ?_ | (refine z10 fun K hK=>?_;simp only [go_sem];(repeat (first | (refine ⟨_,.lent (hf:=h22) (hd:=rfl) (hr:=rfl),?_⟩;simp only [go_sem]) | (refine ⟨_,.lent (hf:=h12a) (hd:=rfl) (hr:=rfl),?_⟩;simp only [go_sem]) | (refine ⟨_,.lent (hf:=h12b) (hd:=rfl) (hr:=rfl),?_⟩;simp only [go_sem]) | (refine ⟨_,.lent (hf:=h13) (hd:=rfl) (hr:=rfl),?_⟩;simp only [go_sem]) | (refine ⟨_,.given (hf:=h22) (hd:=rfl) (ha:=rfl),?_⟩;simp only [go_sem]) | (refine ⟨_,.given (hf:=h12a) (hd:=rfl) (ha:=rfl),?_⟩;simp only [go_sem]) | (refine ⟨_,.given (hf:=h12b) (hd:=rfl) (ha:=rfl),?_⟩;simp only [go_sem]) | (refine ⟨_,.given (hf:=h13) (hd:=rfl) (ha:=rfl),?_⟩;simp only [go_sem])));apply hK;clear hK K))
  simp only [go_sem]
 | false =>
 rw [q3] at h12b
 have hr:=q1
 simp only [readyB,Bool.and_eq_true,beq_iff_eq] at hr
 have h0:=hr.2
 have hg:KitGood k:=z173 (z160.1 h0)
 have h23:=z1100 k hg M hM hMr
 have h24:=z1099 k hg C hC hCr
 cases q4:decide ((less.length:Int) > 60) with
 | true =>
  rw [Kitchen.cells] at h22 ⊢
  refine z18 180 Try.call5 Try.func5 rfl (by decide) fun J=>?_
  simp only [go_sem,St.start,Try.ntmps5,Try.results5]
  repeat (first | refine z12 rfl ?_ | refine z11 rfl ?_ | refine nx ?_ | (refine z10 fun K hK=>?_;simp only [go_sem,q4,z13];(repeat (first | (refine ⟨_,.lent (hf:=h22) (hd:=rfl) (hr:=rfl),?_⟩;simp only [go_sem,q4,z13]) | (refine ⟨_,.lent (hf:=h12a) (hd:=rfl) (hr:=rfl),?_⟩;simp only [go_sem,q4,z13]) | (refine ⟨_,.lent (hf:=h12b) (hd:=rfl) (hr:=rfl),?_⟩;simp only [go_sem,q4,z13]) | (refine ⟨_,.lent (hf:=h13) (hd:=rfl) (hr:=rfl),?_⟩;simp only [go_sem,q4,z13]) | (refine ⟨_,.given (hf:=h22) (hd:=rfl) (ha:=rfl),?_⟩;simp only [go_sem,q4,z13]) | (refine ⟨_,.given (hf:=h12a) (hd:=rfl) (ha:=rfl),?_⟩;simp only [go_sem,q4,z13]) | (refine ⟨_,.given (hf:=h12b) (hd:=rfl) (ha:=rfl),?_⟩;simp only [go_sem,q4,z13]) | (refine ⟨_,.given (hf:=h13) (hd:=rfl) (ha:=rfl),?_⟩;simp only [go_sem,q4,z13])));apply hK;clear hK K))
  simp only [go_sem]
 | false =>
 cases q5:shapedB (menuB k) M k.days with
 | false =>
  rw [q5] at h23
  rw [Kitchen.cells] at h22 h23 ⊢
  refine z18 180 Try.call5 Try.func5 rfl (by decide) fun J=>?_
  simp only [go_sem,St.start,Try.ntmps5,Try.results5]
  repeat (first | refine z12 rfl ?_ | refine z11 rfl ?_ | refine nx ?_ | (refine z10 fun K hK=>?_;simp only [go_sem,q4,z13];(repeat (first | (refine ⟨_,.lent (hf:=h22) (hd:=rfl) (hr:=rfl),?_⟩;simp only [go_sem,q4,z13]) | (refine ⟨_,.lent (hf:=h12a) (hd:=rfl) (hr:=rfl),?_⟩;simp only [go_sem,q4,z13]) | (refine ⟨_,.lent (hf:=h12b) (hd:=rfl) (hr:=rfl),?_⟩;simp only [go_sem,q4,z13]) | (refine ⟨_,.lent (hf:=h23) (hd:=rfl) (hr:=rfl),?_⟩;simp only [go_sem,q4,z13]) | (refine ⟨_,.lent (hf:=h13) (hd:=rfl) (hr:=rfl),?_⟩;simp only [go_sem,q4,z13]) | (refine ⟨_,.given (hf:=h22) (hd:=rfl) (ha:=rfl),?_⟩;simp only [go_sem,q4,z13]) | (refine ⟨_,.given (hf:=h12a) (hd:=rfl) (ha:=rfl),?_⟩;simp only [go_sem,q4,z13]) | (refine ⟨_,.given (hf:=h12b) (hd:=rfl) (ha:=rfl),?_⟩;simp only [go_sem,q4,z13]) | (refine ⟨_,.given (hf:=h23) (hd:=rfl) (ha:=rfl),?_⟩;simp only [go_sem,q4,z13]) | (refine ⟨_,.given (hf:=h13) (hd:=rfl) (ha:=rfl),?_⟩;simp only [go_sem,q4,z13])));apply hK;clear hK K))
  simp only [go_sem]
 | true =>
 rw [q5] at h23
 cases q6:shapedB countB C k.days with
 | false =>
  rw [q6] at h24
  rw [Kitchen.cells] at h22 h23 h24 ⊢
  refine z18 180 Try.call5 Try.func5 rfl (by decide) fun J=>?_
  simp only [go_sem,St.start,Try.ntmps5,Try.results5]
  repeat (first | refine z12 rfl ?_ | refine z11 rfl ?_ | refine nx ?_ | (refine z10 fun K hK=>?_;simp only [go_sem,q4,z13];(repeat (first | (refine ⟨_,.lent (hf:=h22) (hd:=rfl) (hr:=rfl),?_⟩;simp only [go_sem,q4,z13]) | (refine ⟨_,.lent (hf:=h12a) (hd:=rfl) (hr:=rfl),?_⟩;simp only [go_sem,q4,z13]) | (refine ⟨_,.lent (hf:=h12b) (hd:=rfl) (hr:=rfl),?_⟩;simp only [go_sem,q4,z13]) | (refine ⟨_,.lent (hf:=h23) (hd:=rfl) (hr:=rfl),?_⟩;simp only [go_sem,q4,z13]) | (refine ⟨_,.lent (hf:=h24) (hd:=rfl) (hr:=rfl),?_⟩;simp only [go_sem,q4,z13]) | (refine ⟨_,.lent (hf:=h13) (hd:=rfl) (hr:=rfl),?_⟩;simp only [go_sem,q4,z13]) | (refine ⟨_,.given (hf:=h22) (hd:=rfl) (ha:=rfl),?_⟩;simp only [go_sem,q4,z13]) | (refine ⟨_,.given (hf:=h12a) (hd:=rfl) (ha:=rfl),?_⟩;simp only [go_sem,q4,z13]) | (refine ⟨_,.given (hf:=h12b) (hd:=rfl) (ha:=rfl),?_⟩;simp only [go_sem,q4,z13]) | (refine ⟨_,.given (hf:=h23) (hd:=rfl) (ha:=rfl),?_⟩;simp only [go_sem,q4,z13]) | (refine ⟨_,.given (hf:=h24) (hd:=rfl) (ha:=rfl),?_⟩;simp only [go_sem,q4,z13]) | (refine ⟨_,.given (hf:=h13) (hd:=rfl) (ha:=rfl),?_⟩;simp only [go_sem,q4,z13])));apply hK;clear hK K))
  simp only [go_sem]
 | true =>
 rw [q6] at h24
 have hop:openK k M=0:=by rw [openK,if_pos h0,if_pos q5]
 have h27:=z1098 k M hs hM hMr
 rw [if_pos hop] at h27
 have h28:=z1057 k M C hs hM hMr hC hCr
 have h28b:=fun R hR hRr=>z1057 k M R hs hM hMr hR hRr
 have hcom:=fun R h=>z1021 (R:=R) hop q6 h
 have h18:FnG Try.prog 18 [] [] (List.map AV.d [.sl (listRows C)]) (.own 0) (.arrA 22 1 (nm 1 (C.map intRows).length)::(C.map intRows).map fun r=>Blk.arr 3 1 r):=by
  rw [List.length_map]
  exact z1038 C hC hCr
 obtain ⟨_,hc0,_⟩:=hcom C ⟨q6,fun _ _=>Int.le_refl _⟩
 obtain ⟨⟨c1,c2,c3,c4⟩,hcp⟩:∃ P,P=cookP k M C:=⟨_,rfl⟩
 rw [← hcp] at h28 hcom hc0
 dsimp only at h28 hcom hc0
 subst hc0
 obtain ⟨hi,hhi⟩:∃ x,x=mostK k M:=⟨_,rfl⟩
 obtain ⟨lo,hlo⟩:∃ x,x=leastK k M:=⟨_,rfl⟩
 rw [← hhi,← hlo] at h27 hcom
 have hdl:=z38 q6
 have hdd:=hg.days
 rw [Kitchen.cells] at h22 h23 h24 h27 h28 h28b ⊢
 refine z18 180 Try.call5 Try.func5 rfl (by decide) fun J=>?_
 simp only [go_sem,St.start,Try.ntmps5,Try.results5]
 repeat (first | refine z12 rfl ?_ | refine z11 rfl ?_ | refine nx ?_ | (refine z10 fun K hK=>?_;simp only [go_sem,q4,z13];(repeat (first | (refine ⟨_,.lent (hf:=h22) (hd:=rfl) (hr:=rfl),?_⟩;simp only [go_sem,q4,z13]) | (refine ⟨_,.lent (hf:=h12a) (hd:=rfl) (hr:=rfl),?_⟩;simp only [go_sem,q4,z13]) | (refine ⟨_,.lent (hf:=h12b) (hd:=rfl) (hr:=rfl),?_⟩;simp only [go_sem,q4,z13]) | (refine ⟨_,.lent (hf:=h23) (hd:=rfl) (hr:=rfl),?_⟩;simp only [go_sem,q4,z13]) | (refine ⟨_,.lent (hf:=h24) (hd:=rfl) (hr:=rfl),?_⟩;simp only [go_sem,q4,z13]) | (refine ⟨_,.lent (hf:=h27) (hd:=rfl) (hr:=rfl),?_⟩;simp only [go_sem,q4,z13]) | (refine ⟨_,.lent (hf:=h28) (hd:=rfl) (hr:=rfl),?_⟩;simp only [go_sem,q4,z13]) | (refine ⟨_,.given (hf:=h22) (hd:=rfl) (ha:=rfl),?_⟩;simp only [go_sem,q4,z13]) | (refine ⟨_,.given (hf:=h12a) (hd:=rfl) (ha:=rfl),?_⟩;simp only [go_sem,q4,z13]) | (refine ⟨_,.given (hf:=h12b) (hd:=rfl) (ha:=rfl),?_⟩;simp only [go_sem,q4,z13]) | (refine ⟨_,.given (hf:=h23) (hd:=rfl) (ha:=rfl),?_⟩;simp only [go_sem,q4,z13]) | (refine ⟨_,.given (hf:=h24) (hd:=rfl) (ha:=rfl),?_⟩;simp only [go_sem,q4,z13]) | (refine ⟨_,.given (hf:=h27) (hd:=rfl) (ha:=rfl),?_⟩;simp only [go_sem,q4,z13]) | (refine ⟨_,.given (hf:=h28) (hd:=rfl) (ha:=rfl),?_⟩;simp only [go_sem,q4,z13])));apply hK;clear hK K))
 refine z721 (C.map intRows).length ?_
 refine z10 fun K hK=>?_
 simp only [go_sem]
 refine ⟨_,.madeRows 70 180 (hf:=h18) (hd:=rfl) (hx:=rfl) (hdL:=by decide) (hl:=by simp) (hfr:=rfl) (hm:=by simp only [List.drop_succ_cons,List.drop_zero,List.length_map]),?_⟩
 simp only [go_sem,List.take_succ_cons,List.take_zero,List.length_map,List.set_cons_succ,List.set_cons_zero]
 apply hK
 clear hK K
 repeat (first | refine nx ?_ | (refine z10 fun K hK=>?_;simp only [go_sem];apply hK;clear hK K))
 have hCl:C.length≤6:=by omega
 refine z179 180 (fun (a:Nat × Nat × List (List Int))=>[(13,.d (.i (a.2.1:Nat))),(14,.d (.i (a.1:Nat)))]) (fun _=>[]) (fun a=>arrs 3 1 (a.2.2.map intRows))
  (fun a=>a.1≤C.length∧a.2.1≤4 * a.1∧Low k C a.2.2) (fun a=>C.length - a.1) (0,0,C) ?_ ⟨Nat.zero_le _,Nat.le_refl _,q6,fun _ _=>Int.le_refl _⟩ ?_
 ·simp only [go_sem]
  refine z63 [] ?_ ?_ rfl ?_
  ·simp [lessT,AV.less]
  ·simp [lessT,lessM,lessB,AV.less,z72]
  ·simp only [liveM,z54,List.all_cons,List.all_nil,z186,Bool.and_true]
   exact z159 (by simp [z97]) (z120 3 1 _)
 ·rintro ⟨d,a,R⟩ ⟨hd,ha,hL⟩
  dsimp only at hd ha hL
  have hRl:R.length=C.length:=(z38 hL.sh).trans hdl.symm
  simp only [go_sem,z289]
  repeat (first | refine nx ?_ | (refine z10 fun K hK=>?_;simp only [go_sem,z289];apply hK;clear hK K))
  refine z14 rfl (fun hb=>?_) (fun hb=>?_)
  ·have hlt:d<C.length:=by simpa using hb
   have hw:IntKind.i64.wrap ((d:Int) + 1)=((d + 1:Nat):Int):=by rw [z17 (by omega)];simp
   obtain ⟨r0,hr0⟩:∃ r,R[d]?=some r:=⟨_,List.getElem?_eq_getElem (by omega)⟩
   obtain ⟨hdk,hrl0⟩:=z667 hL hr0
   have hD3:(k.days.getD d []).length≤3:=by
    have:=(hg.groups (k.days.getD d []) (by rw [List.getD_eq_getElem?_getD,List.getElem?_eq_getElem hdk];simp)).1
    exact this
   obtain ⟨n,hn⟩:∃ n,n=(k.days.getD d []).length:=⟨_,rfl⟩
   have hnd:¬ ((d:Int)<0):=by omega
   have gm:=z957 (L:=180) hlt
   repeat (first | refine nx ?_ | (refine z10 fun K hK=>?_;simp only [go_sem];apply hK;clear hK K))
   refine z179 180 (fun (b:Nat × Nat × List (List Int))=>[(13,.d (.i (b.2.1:Nat))),(15,.d (.i (b.1:Nat)))]) (fun _=>[]) (fun b=>arrs 3 1 (b.2.2.map intRows))
    (fun b=>b.1≤n∧b.2.1≤4 * d + b.1∧Low k C b.2.2) (fun b=>n - b.1) (0,a,R) ?_ ⟨Nat.zero_le _,by dsimp only;omega,hL⟩ ?_
   ·simp only [go_sem]
    refine z63 [] ?_ ?_ rfl ?_
    ·simp [lessT,AV.less]
    ·simp [lessT,lessM,lessB,AV.less,z72]
    ·simp only [liveM,z54,List.all_cons,List.all_nil,z186,Bool.and_true]
     exact z159 (by simp [z97,hRl]) (z120 3 1 _)
   ·rintro ⟨g,at',S⟩ ⟨hgn,hat,hLS⟩
    dsimp only at hgn hat hLS
    have hSl:S.length=C.length:=(z38 hLS.sh).trans hdl.symm
    obtain ⟨r,hr⟩:∃ r,S[d]?=some r:=⟨_,List.getElem?_eq_getElem (by omega)⟩
    obtain ⟨_,hrl⟩:=z667 hLS hr
    rw [← hn] at hrl
    have ga:(arrs 3 1 (S.map intRows))[d]?=some (some (.arr 3 1 (intRows r))):=z459 (by simp [hr])
    simp only [go_sem]
    repeat (first | refine nx ?_ | (refine z10 fun K hK=>?_;simp only [go_sem,z289,hnd,hlt,gm,ga,z13];apply hK;clear hK K))
    refine z14 rfl (fun hb=>?_) (fun hb=>?_)
    ·have hgl:g<r.length:=by simpa using hb
     obtain ⟨c,hc⟩:∃ c,r[g]?=some c:=⟨_,List.getElem?_eq_getElem hgl⟩
     have gc:=z35 hc
     have hwg:IntKind.i64.wrap ((g:Int) + 1)=((g + 1:Nat):Int):=by rw [z17 (by omega)];simp
     have hwa:IntKind.i64.wrap ((at':Int) + 1)=((at' + 1:Nat):Int):=by rw [z17 (by omega)];simp
     have hna:¬ ((at':Int)<0):=by omega
     have hng:¬ ((g:Int)<0):=by omega
     by_cases hal:at'<less.length
     ·have b1:decide ((at':Int)<(less.length:Int))=true:=decide_eq_true (by omega)
      obtain ⟨x,hx⟩:∃ x,less[at']?=some x:=⟨_,List.getElem?_eq_getElem hal⟩
      have gx:=z35 hx
      by_cases hx0:x ≥ 0
      ·have b2:decide (x ≥ 0)=true:=decide_eq_true hx0
       by_cases hx1:x≤100
       ·have b3:decide (x≤100)=true:=decide_eq_true hx1
        repeat (first | refine z12 rfl ?_ | refine z11 rfl ?_ | refine nx ?_ | (refine z10 fun K hK=>?_;simp only [go_sem,b1,b2,b3,hal,hna,gx,z13,hwa,hwg];apply hK;clear hK K))
        have gday:=z311 hdk
        have gdin:=z566 (k:=k) (day:=d) (group:=g) (by omega)
        rw [Diners.row] at gdin
        have hdl1:d<(dayRows k.days).length:=by simp [dayRows];omega
        have hdl2:g<(dinRows (k.days.getD d [])).length:=by rw [dinRows,List.length_map];omega
        have hcb:=z191 hLS.sh hdk (g:=g) (by omega)
        rw [z212 hr hc] at hcb
        obtain ⟨lw,hlw⟩:∃ l,l=(dinAt k d g).count.lo:=⟨_,rfl⟩
        have hl0:=((z980 hg).rng d g hdk (by omega)).1
        have hc100:=((z708 hg hLS.sh).rng d g hdk (by omega)).2
        rw [z212 hr hc] at hc100
        rw [← hlw] at gdin hcb hl0
        have hwc:IntKind.i64.wrap (c - x)=c - x:=z17 (by omega)
        refine z16 (by kernel_rfl) (by kernel_rfl) fun K hK=>?_
        simp only [go_sem,z289,hnd,hlt,gm,ga,gc,gx,hng,hna,hal,hgl,z13,gday,gdin,hdl1,hdl2,hwc,z69]
        refine ⟨by kernel_rfl,hK _ ?_⟩
        clear hK K
        have hset:∀ q,(arrs 3 1 (S.map intRows)).set d (some (.arr 3 1 (intRows q)))=arrs 3 1 ((S.set d q).map intRows):=fun q=>by rw [z953,List.map_set]
        simp only [go_sem,hset]
        repeat (first | refine nx ?_ | (refine z10 fun K hK=>?_;simp only [go_sem,hwa,hwg];apply hK;clear hK K))
        refine ⟨rfl,(g + 1,at' + 1,S.set d (r.set g (max lw (c - x)))),?_,⟨by dsimp only;omega,by dsimp only;omega,z979 hLS hr hc (by rw [← hlw];omega) (by omega)⟩,by dsimp only;omega⟩
        refine z63 [] ?_ ?_ rfl ?_
        ·simp [lessT,AV.less]
        ·simp [lessT,lessM,lessB,AV.less,z72]
        ·simp only [liveM,z54,List.all_cons,List.all_nil,z186,Bool.and_true]
         exact z159 (by simp [z97,hSl]) (z120 3 1 _)
       ·have b3:decide (x≤100)=false:=decide_eq_false hx1
        repeat (first | refine z12 rfl ?_ | refine z11 rfl ?_ | refine nx ?_ | (refine z10 fun K hK=>?_;simp only [go_sem,b1,b2,b3,hal,hna,gx,z13,hwa,hwg];apply hK;clear hK K))
        refine ⟨rfl,(g + 1,at' + 1,S),?_,⟨by dsimp only;omega,by dsimp only;omega,hLS⟩,by dsimp only;omega⟩
        refine z63 [] ?_ ?_ rfl ?_
        ·simp [lessT,AV.less]
        ·simp [lessT,lessM,lessB,AV.less,z72]
        ·simp only [liveM,z54,List.all_cons,List.all_nil,z186,Bool.and_true]
         exact z159 (by simp [z97,hSl]) (z120 3 1 _)
      ·have b2:decide (x ≥ 0)=false:=decide_eq_false hx0
       repeat (first | refine z12 rfl ?_ | refine z11 rfl ?_ | refine nx ?_ | (refine z10 fun K hK=>?_;simp only [go_sem,b1,b2,hal,hna,gx,z13,hwa,hwg];apply hK;clear hK K))
       refine ⟨rfl,(g + 1,at' + 1,S),?_,⟨by dsimp only;omega,by dsimp only;omega,hLS⟩,by dsimp only;omega⟩
       refine z63 [] ?_ ?_ rfl ?_
       ·simp [lessT,AV.less]
       ·simp [lessT,lessM,lessB,AV.less,z72]
       ·simp only [liveM,z54,List.all_cons,List.all_nil,z186,Bool.and_true]
        exact z159 (by simp [z97,hSl]) (z120 3 1 _)
     ·have b1:decide ((at':Int)<(less.length:Int))=false:=decide_eq_false (by omega)
      repeat (first | refine z12 rfl ?_ | refine z11 rfl ?_ | refine nx ?_ | (refine z10 fun K hK=>?_;simp only [go_sem,b1,z13,hwa,hwg];apply hK;clear hK K))
      refine ⟨rfl,(g + 1,at' + 1,S),?_,⟨by dsimp only;omega,by dsimp only;omega,hLS⟩,by dsimp only;omega⟩
      refine z63 [] ?_ ?_ rfl ?_
      ·simp [lessT,AV.less]
      ·simp [lessT,lessM,lessB,AV.less,z72]
      ·simp only [liveM,z54,List.all_cons,List.all_nil,z186,Bool.and_true]
       exact z159 (by simp [z97,hSl]) (z120 3 1 _)
    ·have hgl:¬ g<r.length:=by simpa using hb
     have hwd:IntKind.i64.wrap ((d:Int) + 1)=((d + 1:Nat):Int):=by rw [z17 (by omega)];simp
     repeat (first | refine nx ?_ | (refine z10 fun K hK=>?_;simp only [go_sem,hwd];apply hK;clear hK K))
     refine ⟨rfl,(d + 1,at',S),?_,⟨by dsimp only;omega,by dsimp only;omega,hLS⟩,by dsimp only;omega⟩
     refine z63 [] ?_ ?_ rfl ?_
     ·simp [lessT,AV.less]
     ·simp [lessT,lessM,lessB,AV.less,z72]
     ·simp only [liveM,z54,List.all_cons,List.all_nil,z186,Bool.and_true]
      exact z159 (by simp [z97,hSl]) (z120 3 1 _)
  ·have hde:d=C.length:=by (have:¬ d<C.length:=by simpa using hb);omega
   subst hde
   repeat refine nx ?_
   have hRr:∀ r ∈ R,r.length<2 ^ 30:=fun r hr=>by
    obtain ⟨i,hi⟩:=List.mem_iff_getElem?.1 hr
    obtain ⟨q1,q2⟩:=z667 hL hi
    rw [q2]
    have:=(hg.groups (k.days.getD i []) (by rw [List.getD_eq_getElem?_getD,List.getElem?_eq_getElem q1];simp)).1
    omega
   have h28R:=h28b R (by omega) hRr
   obtain ⟨⟨hc1,hc2,hc3,hc4⟩,_,hc5⟩:=hcom R hL
   obtain ⟨⟨x1,x2,x3,x4⟩,hxp⟩:∃ P,P=cookP k M R:=⟨_,rfl⟩
   rw [← hxp] at h28R hc3 hc5
   dsimp only at h28R hc3 hc5
   subst hc5
   have e1:decide ((hi:Int)≤(c3:Int))=true:=decide_eq_true (by omega)
   have e2:decide ((c3:Int)≤(lo:Int))=true:=decide_eq_true (by omega)
   have e3:decide ((c3:Int)≤(x3:Int))=true:=decide_eq_true (by omega)
   have e4:decide ((hi:Int) ≥ 0)=true:=decide_eq_true (by omega)
   have e5:decide ((lo:Int)≤(k.days.length:Int))=true:=decide_eq_true (by omega)
   refine z722 (L:=180) (d:=70) (e:=22) (e1:=3) (z1:=1) (R.map intRows) (by decide) (by simp) (by rw [List.length_map,hRl];rfl) (fun j r hj=>by
    simp only [List.getElem?_cons_succ]
    exact z459 hj) ?_
   have hfr:flatRows (R.map intRows)=listRows R:=by simp [flatRows,listRows]
   simp only [go_sem,hfr,List.take_succ_cons,List.take_zero,List.map_cons,List.map_nil]
   repeat (first | refine z12 rfl ?_ | refine z11 rfl ?_ | refine nx ?_ | (refine z10 fun K hK=>?_;simp only [go_sem,e1,e2,e3,e4,e5,z85];(repeat (first | (refine ⟨_,.lent (hf:=h28R) (hd:=rfl) (hr:=rfl),?_⟩;simp only [go_sem,e1,e2,e3,e4,e5,z85]) | (refine ⟨_,.lent (hf:=h13) (hd:=rfl) (hr:=rfl),?_⟩;simp only [go_sem,e1,e2,e3,e4,e5,z85]) | (refine ⟨_,.given (hf:=h28R) (hd:=rfl) (ha:=rfl),?_⟩;simp only [go_sem,e1,e2,e3,e4,e5,z85]) | (refine ⟨_,.given (hf:=h13) (hd:=rfl) (ha:=rfl),?_⟩;simp only [go_sem,e1,e2,e3,e4,e5,z85])));apply hK;clear hK K))
   simp only [go_sem]
end Go.Ab
