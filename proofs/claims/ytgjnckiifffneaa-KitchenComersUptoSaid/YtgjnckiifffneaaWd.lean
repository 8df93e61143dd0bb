/- A walk engine over abstract states, and the contracts of the functions that the statement reaches: part 4. -/
import Derived.Test.YtgjnckiifffneaaWc
set_option linter.unusedVariables false
set_option linter.unusedSimpArgs false
set_option linter.unnecessarySimpa false
namespace Go.Ab
open Go.RowKit Go.Proofs
set_option maxHeartbeats 8000000
set_option maxRecDepth 20000
attribute [local irreducible] WalkL Walk
theorem z1072 (s:Int) (g:Nat) (caps:List DV) (b:Bool) (hq:Fn Try.prog g (.i s::caps) (.bool b)):Fn Try.prog 88 [.i s,.ptr [.fn g caps] 0] (.bool (!b)):=by
 refine z18 8 Try.call88 Try.func88 rfl (by decide) fun J=>?_
 simp only [go_sem,St.start,Try.ntmps88,Try.results88]
 repeat (first | refine nx ?_ | (refine z10 fun K hK=>?_;simp only [go_sem];apply hK;clear hK K))
 refine z10 fun K hK=>?_
 simp only [go_sem]
 refine ⟨_,.lent (hf:=hq) (hd:=z52 _ _ _ _ rfl) (hr:=rfl),?_⟩
 simp only [go_sem]
 apply hK
 clear hK K
 repeat (first | refine nx ?_ | (refine z10 fun K hK=>?_;simp only [go_sem];apply hK;clear hK K))
 simp only [go_sem]
theorem z1051 (xs:List Int) (g:Nat) (caps:List DV) (q:Int→Bool) (hq:∀ s ∈ xs,Fn Try.prog g (.i s::caps) (.bool (q s))) (hl:xs.length<2 ^ 62):Fn Try.prog 67 [.sl (intRows xs),.fn g caps] (.bool (xs.all q)):=by
 have h:=z1073 xs 88 [.ptr [.fn g caps] 0] (fun s=>!q s) (fun s hs=>z1072 s g caps (q s) (hq s hs)) hl
 refine z18 9 Try.call67 Try.func67 rfl (by decide) fun J=>?_
 simp only [go_sem,St.start,Try.ntmps67,Try.results67]
 repeat (first | refine nx ?_ | (refine z10 fun K hK=>?_;simp only [go_sem];(repeat (first | (refine ⟨_,.lent (hf:=h) (hd:=rfl) (hr:=rfl),?_⟩;simp only [go_sem]) | (refine ⟨_,.given (hf:=h) (hd:=rfl) (ha:=rfl),?_⟩;simp only [go_sem])));apply hK;clear hK K))
 simp only [go_sem,z319]
theorem z1003 (xs:List Batch) (g:Nat) (caps:List DV) (q:Batch→Bool) (hq:∀ s ∈ xs,Fn Try.prog g (.agg s.row::caps) (.bool (q s))) (hl:xs.length<2 ^ 62):Fn Try.prog 104 [.sl (batRows xs),.fn g caps] (.i (idxFrom q xs 0)):=by
 refine z18 19 Try.call104 Try.func104 rfl (by decide) fun J=>?_
 simp only [go_sem,St.start,Try.ntmps104,Try.results104]
 repeat (first | refine nx ?_ | (refine z10 fun K hK=>?_;simp only [go_sem];apply hK;clear hK K))
 refine z15 (fun (i:Nat)=>[(8,.d (.i i))]) (fun _=>[]) (fun i=>i≤xs.length∧idxFrom q xs 0=idxFrom q (xs.drop i) i) (fun i=>xs.length - i) 0 ?_ ⟨Nat.zero_le _,rfl⟩ ?_
 ·simp only [go_sem]
  refine weA ?_ ?_ <;> simp
 ·intro i ⟨hi,hq0⟩
  simp only [go_sem]
  repeat (first | refine nx ?_ | (refine z10 fun K hK=>?_;simp only [go_sem];apply hK;clear hK K))
  refine z14 rfl (fun hb=>?_) (fun hb=>?_)
  ·have hlt:i<xs.length:=by simpa using hb
   have hw:IntKind.i64.wrap ((i:Int) + 1)=((i + 1:Nat):Int):=by rw [z17 (by omega)];simp
   obtain ⟨s,hs⟩:∃ s,xs[i]?=some s:=⟨_,List.getElem?_eq_getElem hlt⟩
   rw [z29 hs,idxFrom] at hq0
   repeat (first | refine nx ?_ | (refine z10 fun K hK=>?_;simp only [go_sem];apply hK;clear hK K))
   refine z10 fun K hK=>?_
   simp only [go_sem,hs,List.getElem?_map,z243 hs,Batch.row,hw]
   refine ⟨_,.lent (hf:=hq s (List.mem_of_getElem? hs)) (hd:=z52 _ _ _ _ rfl) (hr:=rfl),?_⟩
   simp only [go_sem]
   apply hK
   clear hK K
   refine z14 rfl (fun hc=>?_) (fun hc=>?_)
   ·rw [hc,if_pos rfl] at hq0
    repeat (first | refine nx ?_ | (refine z10 fun K hK=>?_;simp only [go_sem];apply hK;clear hK K))
    simp only [go_sem,hq0]
   ·rw [hc] at hq0
    repeat (first | refine nx ?_ | (refine z10 fun K hK=>?_;simp only [go_sem,hw];apply hK;clear hK K))
    refine ⟨rfl,i + 1,?_,⟨hlt,hq0⟩,by omega⟩
    refine weA ?_ ?_ <;> simp
  ·have he:i=xs.length:=by (have:¬ i<xs.length:=by simpa using hb);omega
   subst he
   repeat (first | refine nx ?_ | (refine z10 fun K hK=>?_;simp only [go_sem];apply hK;clear hK K))
   simp only [go_sem,hq0,List.drop_length,idxFrom]
theorem z1069 (xs:List Batch) (g:Nat) (caps:List DV) (q:Batch→Bool) (hq:∀ s ∈ xs,Fn Try.prog g (.agg s.row::caps) (.bool (q s))) (hl:xs.length<2 ^ 62):Fn Try.prog 91 [.sl (batRows xs),.fn g caps] (.bool (xs.any q)):=by
 refine z18 9 Try.call91 Try.func91 rfl (by decide) fun J=>?_
 simp only [go_sem,St.start,Try.ntmps91,Try.results91]
 repeat (first | refine nx ?_ | (refine z10 fun K hK=>?_;simp only [go_sem];(repeat (first | (refine ⟨_,.lent (hf:=z1003 xs g caps q hq hl) (hd:=rfl) (hr:=rfl),?_⟩;simp only [go_sem]) | (refine ⟨_,.given (hf:=z1003 xs g caps q hq hl) (hd:=rfl) (ha:=rfl),?_⟩;simp only [go_sem])));apply hK;clear hK K))
 simp only [go_sem,z56]
theorem z1068 (s:Batch) (g:Nat) (caps:List DV) (b:Bool) (hq:Fn Try.prog g (.agg s.row::caps) (.bool b)):Fn Try.prog 92 [.agg s.row,.ptr [.fn g caps] 0] (.bool (!b)):=by
 refine z18 8 Try.call92 Try.func92 rfl (by decide) fun J=>?_
 simp only [go_sem,St.start,Try.ntmps92,Try.results92,Batch.row]
 repeat (first | refine nx ?_ | (refine z10 fun K hK=>?_;simp only [go_sem];apply hK;clear hK K))
 refine z10 fun K hK=>?_
 simp only [go_sem]
 refine ⟨_,.lent (hf:=hq) (hd:=z52 _ _ _ _ rfl) (hr:=rfl),?_⟩
 simp only [go_sem]
 apply hK
 clear hK K
 repeat (first | refine nx ?_ | (refine z10 fun K hK=>?_;simp only [go_sem];apply hK;clear hK K))
 simp only [go_sem]
theorem z1082 (xs:List Batch) (g:Nat) (caps:List DV) (q:Batch→Bool) (hq:∀ s ∈ xs,Fn Try.prog g (.agg s.row::caps) (.bool (q s))) (hl:xs.length<2 ^ 62):Fn Try.prog 71 [.sl (batRows xs),.fn g caps] (.bool (xs.all q)):=by
 have h:=z1069 xs 92 [.ptr [.fn g caps] 0] (fun s=>!q s) (fun s hs=>z1068 s g caps (q s) (hq s hs)) hl
 refine z18 9 Try.call71 Try.func71 rfl (by decide) fun J=>?_
 simp only [go_sem,St.start,Try.ntmps71,Try.results71]
 repeat (first | refine nx ?_ | (refine z10 fun K hK=>?_;simp only [go_sem];(repeat (first | (refine ⟨_,.lent (hf:=h) (hd:=rfl) (hr:=rfl),?_⟩;simp only [go_sem]) | (refine ⟨_,.given (hf:=h) (hd:=rfl) (ha:=rfl),?_⟩;simp only [go_sem])));apply hK;clear hK K))
 simp only [go_sem,z319]
theorem z1002 (xs:List Dish) (g:Nat) (caps:List DV) (q:Dish→Bool) (hq:∀ s ∈ xs,Fn Try.prog g (.agg s.row::caps) (.bool (q s))) (hl:xs.length<2 ^ 62):Fn Try.prog 105 [.sl (dishRows xs),.fn g caps] (.i (idxFrom q xs 0)):=by
 refine z18 19 Try.call105 Try.func105 rfl (by decide) fun J=>?_
 simp only [go_sem,St.start,Try.ntmps105,Try.results105]
 repeat (first | refine nx ?_ | (refine z10 fun K hK=>?_;simp only [go_sem];apply hK;clear hK K))
 refine z15 (fun (i:Nat)=>[(8,.d (.i i))]) (fun _=>[]) (fun i=>i≤xs.length∧idxFrom q xs 0=idxFrom q (xs.drop i) i) (fun i=>xs.length - i) 0 ?_ ⟨Nat.zero_le _,rfl⟩ ?_
 ·simp only [go_sem]
  refine weA ?_ ?_ <;> simp
 ·intro i ⟨hi,hq0⟩
  simp only [go_sem]
  repeat (first | refine nx ?_ | (refine z10 fun K hK=>?_;simp only [go_sem];apply hK;clear hK K))
  refine z14 rfl (fun hb=>?_) (fun hb=>?_)
  ·have hlt:i<xs.length:=by simpa using hb
   have hw:IntKind.i64.wrap ((i:Int) + 1)=((i + 1:Nat):Int):=by rw [z17 (by omega)];simp
   obtain ⟨s,hs⟩:∃ s,xs[i]?=some s:=⟨_,List.getElem?_eq_getElem hlt⟩
   rw [z29 hs,idxFrom] at hq0
   repeat (first | refine nx ?_ | (refine z10 fun K hK=>?_;simp only [go_sem];apply hK;clear hK K))
   refine z10 fun K hK=>?_
   simp only [go_sem,hs,List.getElem?_map,z142 hs,Dish.row,hw]
   refine ⟨_,.lent (hf:=hq s (List.mem_of_getElem? hs)) (hd:=z52 _ _ _ _ rfl) (hr:=rfl),?_⟩
   simp only [go_sem]
   apply hK
   clear hK K
   refine z14 rfl (fun hc=>?_) (fun hc=>?_)
   ·rw [hc,if_pos rfl] at hq0
    repeat (first | refine nx ?_ | (refine z10 fun K hK=>?_;simp only [go_sem];apply hK;clear hK K))
    simp only [go_sem,hq0]
   ·rw [hc] at hq0
    repeat (first | refine nx ?_ | (refine z10 fun K hK=>?_;simp only [go_sem,hw];apply hK;clear hK K))
    refine ⟨rfl,i + 1,?_,⟨hlt,hq0⟩,by omega⟩
    refine weA ?_ ?_ <;> simp
  ·have he:i=xs.length:=by (have:¬ i<xs.length:=by simpa using hb);omega
   subst he
   repeat (first | refine nx ?_ | (refine z10 fun K hK=>?_;simp only [go_sem];apply hK;clear hK K))
   simp only [go_sem,hq0,List.drop_length,idxFrom]
theorem z1067 (xs:List Dish) (g:Nat) (caps:List DV) (q:Dish→Bool) (hq:∀ s ∈ xs,Fn Try.prog g (.agg s.row::caps) (.bool (q s))) (hl:xs.length<2 ^ 62):Fn Try.prog 93 [.sl (dishRows xs),.fn g caps] (.bool (xs.any q)):=by
 refine z18 9 Try.call93 Try.func93 rfl (by decide) fun J=>?_
 simp only [go_sem,St.start,Try.ntmps93,Try.results93]
 repeat (first | refine nx ?_ | (refine z10 fun K hK=>?_;simp only [go_sem];(repeat (first | (refine ⟨_,.lent (hf:=z1002 xs g caps q hq hl) (hd:=rfl) (hr:=rfl),?_⟩;simp only [go_sem]) | (refine ⟨_,.given (hf:=z1002 xs g caps q hq hl) (hd:=rfl) (ha:=rfl),?_⟩;simp only [go_sem])));apply hK;clear hK K))
 simp only [go_sem,z56]
theorem z1066 (s:Dish) (g:Nat) (caps:List DV) (b:Bool) (hq:Fn Try.prog g (.agg s.row::caps) (.bool b)):Fn Try.prog 94 [.agg s.row,.ptr [.fn g caps] 0] (.bool (!b)):=by
 refine z18 8 Try.call94 Try.func94 rfl (by decide) fun J=>?_
 simp only [go_sem,St.start,Try.ntmps94,Try.results94,Dish.row]
 repeat (first | refine nx ?_ | (refine z10 fun K hK=>?_;simp only [go_sem];apply hK;clear hK K))
 refine z10 fun K hK=>?_
 simp only [go_sem]
 refine ⟨_,.lent (hf:=hq) (hd:=z52 _ _ _ _ rfl) (hr:=rfl),?_⟩
 simp only [go_sem]
 apply hK
 clear hK K
 repeat (first | refine nx ?_ | (refine z10 fun K hK=>?_;simp only [go_sem];apply hK;clear hK K))
 simp only [go_sem]
theorem z1081 (xs:List Dish) (g:Nat) (caps:List DV) (q:Dish→Bool) (hq:∀ s ∈ xs,Fn Try.prog g (.agg s.row::caps) (.bool (q s))) (hl:xs.length<2 ^ 62):Fn Try.prog 72 [.sl (dishRows xs),.fn g caps] (.bool (xs.all q)):=by
 have h:=z1067 xs 94 [.ptr [.fn g caps] 0] (fun s=>!q s) (fun s hs=>z1066 s g caps (q s) (hq s hs)) hl
 refine z18 9 Try.call72 Try.func72 rfl (by decide) fun J=>?_
 simp only [go_sem,St.start,Try.ntmps72,Try.results72]
 repeat (first | refine nx ?_ | (refine z10 fun K hK=>?_;simp only [go_sem];(repeat (first | (refine ⟨_,.lent (hf:=h) (hd:=rfl) (hr:=rfl),?_⟩;simp only [go_sem]) | (refine ⟨_,.given (hf:=h) (hd:=rfl) (ha:=rfl),?_⟩;simp only [go_sem])));apply hK;clear hK K))
 simp only [go_sem,z319]
theorem z1004 (xs:List Diners) (g:Nat) (caps:List DV) (q:Diners→Bool) (hq:∀ s ∈ xs,Fn Try.prog g (.agg s.row::caps) (.bool (q s))) (hl:xs.length<2 ^ 62):Fn Try.prog 103 [.sl (dinRows xs),.fn g caps] (.i (idxFrom q xs 0)):=by
 refine z18 19 Try.call103 Try.func103 rfl (by decide) fun J=>?_
 simp only [go_sem,St.start,Try.ntmps103,Try.results103]
 repeat (first | refine nx ?_ | (refine z10 fun K hK=>?_;simp only [go_sem];apply hK;clear hK K))
 refine z15 (fun (i:Nat)=>[(8,.d (.i i))]) (fun _=>[]) (fun i=>i≤xs.length∧idxFrom q xs 0=idxFrom q (xs.drop i) i) (fun i=>xs.length - i) 0 ?_ ⟨Nat.zero_le _,rfl⟩ ?_
 ·simp only [go_sem]
  refine weA ?_ ?_ <;> simp
 ·intro i ⟨hi,hq0⟩
  simp only [go_sem]
  repeat (first | refine nx ?_ | (refine z10 fun K hK=>?_;simp only [go_sem];apply hK;clear hK K))
  refine z14 rfl (fun hb=>?_) (fun hb=>?_)
  ·have hlt:i<xs.length:=by simpa using hb
   have hw:IntKind.i64.wrap ((i:Int) + 1)=((i + 1:Nat):Int):=by rw [z17 (by omega)];simp
   obtain ⟨s,hs⟩:∃ s,xs[i]?=some s:=⟨_,List.getElem?_eq_getElem hlt⟩
   rw [z29 hs,idxFrom] at hq0
   repeat (first | refine nx ?_ | (refine z10 fun K hK=>?_;simp only [go_sem];apply hK;clear hK K))
   refine z10 fun K hK=>?_
   simp only [go_sem,hs,List.getElem?_map,z84 hs,Diners.row,hw]
   refine ⟨_,.lent (hf:=hq s (List.mem_of_getElem? hs)) (hd:=z52 _ _ _ _ rfl) (hr:=rfl),?_⟩
   simp only [go_sem]
   apply hK
   clear hK K
   refine z14 rfl (fun hc=>?_) (fun hc=>?_)
   ·rw [hc,if_pos rfl] at hq0
    repeat (first | refine nx ?_ | (refine z10 fun K hK=>?_;simp only [go_sem];apply hK;clear hK K))
    simp only [go_sem,hq0]
   ·rw [hc] at hq0
    repeat (first | refine nx ?_ | (refine z10 fun K hK=>?_;simp only [go_sem,hw];apply hK;clear hK K))
    refine ⟨rfl,i + 1,?_,⟨hlt,hq0⟩,by omega⟩
    refine weA ?_ ?_ <;> simp
  ·have he:i=xs.length:=by (have:¬ i<xs.length:=by simpa using hb);omega
   subst he
   repeat (first | refine nx ?_ | (refine z10 fun K hK=>?_;simp only [go_sem];apply hK;clear hK K))
   simp only [go_sem,hq0,List.drop_length,idxFrom]
theorem z1071 (xs:List Diners) (g:Nat) (caps:List DV) (q:Diners→Bool) (hq:∀ s ∈ xs,Fn Try.prog g (.agg s.row::caps) (.bool (q s))) (hl:xs.length<2 ^ 62):Fn Try.prog 89 [.sl (dinRows xs),.fn g caps] (.bool (xs.any q)):=by
 refine z18 9 Try.call89 Try.func89 rfl (by decide) fun J=>?_
 simp only [go_sem,St.start,Try.ntmps89,Try.results89]
 repeat (first | refine nx ?_ | (refine z10 fun K hK=>?_;simp only [go_sem];(repeat (first | (refine ⟨_,.lent (hf:=z1004 xs g caps q hq hl) (hd:=rfl) (hr:=rfl),?_⟩;simp only [go_sem]) | (refine ⟨_,.given (hf:=z1004 xs g caps q hq hl) (hd:=rfl) (ha:=rfl),?_⟩;simp only [go_sem])));apply hK;clear hK K))
 simp only [go_sem,z56]
theorem z1070 (s:Diners) (g:Nat) (caps:List DV) (b:Bool) (hq:Fn Try.prog g (.agg s.row::caps) (.bool b)):Fn Try.prog 90 [.agg s.row,.ptr [.fn g caps] 0] (.bool (!b)):=by
 refine z18 8 Try.call90 Try.func90 rfl (by decide) fun J=>?_
 simp only [go_sem,St.start,Try.ntmps90,Try.results90,Diners.row]
 repeat (first | refine nx ?_ | (refine z10 fun K hK=>?_;simp only [go_sem];apply hK;clear hK K))
 refine z10 fun K hK=>?_
 simp only [go_sem]
 refine ⟨_,.lent (hf:=hq) (hd:=z52 _ _ _ _ rfl) (hr:=rfl),?_⟩
 simp only [go_sem]
 apply hK
 clear hK K
 repeat (first | refine nx ?_ | (refine z10 fun K hK=>?_;simp only [go_sem];apply hK;clear hK K))
 simp only [go_sem]
theorem z1083 (xs:List Diners) (g:Nat) (caps:List DV) (q:Diners→Bool) (hq:∀ s ∈ xs,Fn Try.prog g (.agg s.row::caps) (.bool (q s))) (hl:xs.length<2 ^ 62):Fn Try.prog 70 [.sl (dinRows xs),.fn g caps] (.bool (xs.all q)):=by
 have h:=z1071 xs 90 [.ptr [.fn g caps] 0] (fun s=>!q s) (fun s hs=>z1070 s g caps (q s) (hq s hs)) hl
 refine z18 9 Try.call70 Try.func70 rfl (by decide) fun J=>?_
 simp only [go_sem,St.start,Try.ntmps70,Try.results70]
 repeat (first | refine nx ?_ | (refine z10 fun K hK=>?_;simp only [go_sem];(repeat (first | (refine ⟨_,.lent (hf:=h) (hd:=rfl) (hr:=rfl),?_⟩;simp only [go_sem]) | (refine ⟨_,.given (hf:=h) (hd:=rfl) (ha:=rfl),?_⟩;simp only [go_sem])));apply hK;clear hK K))
 simp only [go_sem,z319]
theorem z1001 (xs:List (List Diners)) (g:Nat) (caps:List DV) (q:(List Diners)→Bool) (hq:∀ s ∈ xs,Fn Try.prog g (.sl (dinRows s)::caps) (.bool (q s))) (hl:xs.length<2 ^ 62):Fn Try.prog 106 [.sl (dayRows xs),.fn g caps] (.i (idxFrom q xs 0)):=by
 refine z18 19 Try.call106 Try.func106 rfl (by decide) fun J=>?_
 simp only [go_sem,St.start,Try.ntmps106,Try.results106]
 repeat (first | refine nx ?_ | (refine z10 fun K hK=>?_;simp only [go_sem];apply hK;clear hK K))
 refine z15 (fun (i:Nat)=>[(8,.d (.i i))]) (fun _=>[]) (fun i=>i≤xs.length∧idxFrom q xs 0=idxFrom q (xs.drop i) i) (fun i=>xs.length - i) 0 ?_ ⟨Nat.zero_le _,rfl⟩ ?_
 ·simp only [go_sem]
  refine weA ?_ ?_ <;> simp
 ·intro i ⟨hi,hq0⟩
  simp only [go_sem]
  repeat (first | refine nx ?_ | (refine z10 fun K hK=>?_;simp only [go_sem];apply hK;clear hK K))
  refine z14 rfl (fun hb=>?_) (fun hb=>?_)
  ·have hlt:i<xs.length:=by simpa using hb
   have hw:IntKind.i64.wrap ((i:Int) + 1)=((i + 1:Nat):Int):=by rw [z17 (by omega)];simp
   obtain ⟨s,hs⟩:∃ s,xs[i]?=some s:=⟨_,List.getElem?_eq_getElem hlt⟩
   rw [z29 hs,idxFrom] at hq0
   repeat (first | refine nx ?_ | (refine z10 fun K hK=>?_;simp only [go_sem];apply hK;clear hK K))
   refine z10 fun K hK=>?_
   simp only [go_sem,hs,List.getElem?_map,z73 hs,hw]
   refine ⟨_,.lent (hf:=hq s (List.mem_of_getElem? hs)) (hd:=z52 _ _ _ _ rfl) (hr:=rfl),?_⟩
   simp only [go_sem]
   apply hK
   clear hK K
   refine z14 rfl (fun hc=>?_) (fun hc=>?_)
   ·rw [hc,if_pos rfl] at hq0
    repeat (first | refine nx ?_ | (refine z10 fun K hK=>?_;simp only [go_sem];apply hK;clear hK K))
    simp only [go_sem,hq0]
   ·rw [hc] at hq0
    repeat (first | refine nx ?_ | (refine z10 fun K hK=>?_;simp only [go_sem,hw];apply hK;clear hK K))
    refine ⟨rfl,i + 1,?_,⟨hlt,hq0⟩,by omega⟩
    refine weA ?_ ?_ <;> simp
  ·have he:i=xs.length:=by (have:¬ i<xs.length:=by simpa using hb);omega
   subst he
   repeat (first | refine nx ?_ | (refine z10 fun K hK=>?_;simp only [go_sem];apply hK;clear hK K))
   simp only [go_sem,hq0,List.drop_length,idxFrom]
theorem z1065 (xs:List (List Diners)) (g:Nat) (caps:List DV) (q:(List Diners)→Bool) (hq:∀ s ∈ xs,Fn Try.prog g (.sl (dinRows s)::caps) (.bool (q s))) (hl:xs.length<2 ^ 62):Fn Try.prog 95 [.sl (dayRows xs),.fn g caps] (.bool (xs.any q)):=by
 refine z18 9 Try.call95 Try.func95 rfl (by decide) fun J=>?_
 simp only [go_sem,St.start,Try.ntmps95,Try.results95]
 repeat (first | refine nx ?_ | (refine z10 fun K hK=>?_;simp only [go_sem];(repeat (first | (refine ⟨_,.lent (hf:=z1001 xs g caps q hq hl) (hd:=rfl) (hr:=rfl),?_⟩;simp only [go_sem]) | (refine ⟨_,.given (hf:=z1001 xs g caps q hq hl) (hd:=rfl) (ha:=rfl),?_⟩;simp only [go_sem])));apply hK;clear hK K))
 simp only [go_sem,z56]
theorem z1064 (s:(List Diners)) (g:Nat) (caps:List DV) (b:Bool) (hq:Fn Try.prog g (.sl (dinRows s)::caps) (.bool b)):Fn Try.prog 96 [.sl (dinRows s),.ptr [.fn g caps] 0] (.bool (!b)):=by
 refine z18 8 Try.call96 Try.func96 rfl (by decide) fun J=>?_
 simp only [go_sem,St.start,Try.ntmps96,Try.results96]
 repeat (first | refine nx ?_ | (refine z10 fun K hK=>?_;simp only [go_sem];apply hK;clear hK K))
 refine z10 fun K hK=>?_
 simp only [go_sem]
 refine ⟨_,.lent (hf:=hq) (hd:=z52 _ _ _ _ rfl) (hr:=rfl),?_⟩
 simp only [go_sem]
 apply hK
 clear hK K
 repeat (first | refine nx ?_ | (refine z10 fun K hK=>?_;simp only [go_sem];apply hK;clear hK K))
 simp only [go_sem]
theorem z1080 (xs:List (List Diners)) (g:Nat) (caps:List DV) (q:(List Diners)→Bool) (hq:∀ s ∈ xs,Fn Try.prog g (.sl (dinRows s)::caps) (.bool (q s))) (hl:xs.length<2 ^ 62):Fn Try.prog 73 [.sl (dayRows xs),.fn g caps] (.bool (xs.all q)):=by
 have h:=z1065 xs 96 [.ptr [.fn g caps] 0] (fun s=>!q s) (fun s hs=>z1064 s g caps (q s) (hq s hs)) hl
 refine z18 9 Try.call73 Try.func73 rfl (by decide) fun J=>?_
 simp only [go_sem,St.start,Try.ntmps73,Try.results73]
 repeat (first | refine nx ?_ | (refine z10 fun K hK=>?_;simp only [go_sem];(repeat (first | (refine ⟨_,.lent (hf:=h) (hd:=rfl) (hr:=rfl),?_⟩;simp only [go_sem]) | (refine ⟨_,.given (hf:=h) (hd:=rfl) (ha:=rfl),?_⟩;simp only [go_sem])));apply hK;clear hK K))
 simp only [go_sem,z319]
end Go.Ab
namespace Go.Ab
open Go.RowKit Go.Proofs
set_option maxHeartbeats 8000000
set_option maxRecDepth 20000
attribute [local irreducible] WalkL Walk
def setB (n:Int):Bool:=withinB n 0 255
def batchB (goods:Int) (b:Batch):Bool:=withinB b.good 0 (goods - 1) && (withinB b.amount 0 1000000 && withinB b.last 0 30)
def needB (n:Int):Bool:=withinB n 0 5000
def dishB (goods:Int) (d:Dish):Bool:=((d.needs.length:Int) == goods) && d.needs.all needB
def groupB (g:Diners):Bool:=setB g.no && (decide (0≤g.count.lo) && (decide (g.count.lo≤g.count.hi) && decide (g.count.hi≤100)))
def dayB (l:List Diners):Bool:=decide ((l.length:Int)≤3) && l.all groupB
def badKit (k:Kitchen):Bool:=!withinB (k.allerg.length:Int) 1 6 || (!k.allerg.all setB || (decide ((k.batches.length:Int) > 10) || (!k.batches.all (batchB k.allerg.length) || (!withinB (k.dishes.length:Int) 1 5 || (!k.dishes.all (dishB k.allerg.length) || (!withinB (k.days.length:Int) 1 6 || !k.days.all dayB))))))
def kitE (k:Kitchen):Int:=if badKit k then 70 else 0
theorem z886 (n lo hi:Int):Fn Try.prog 54 [.i n,.i lo,.i hi] (.bool (withinB n lo hi)):=by
 unfold withinB
 refine z18 15 Try.call54 Try.func54 rfl (by decide) fun J=>?_
 simp only [go_sem,St.start,Try.ntmps54,Try.results54]
 cases q:decide (lo≤n)
 ·repeat (first | refine nx ?_ | (refine z10 fun K hK=>?_;simp only [go_sem,q];apply hK;clear hK K))
  simp only [go_sem,Bool.false_and]
 ·repeat (first | refine nx ?_ | (refine z10 fun K hK=>?_;simp only [go_sem,q];apply hK;clear hK K))
  simp only [go_sem,Bool.true_and]
theorem z1053 (n:Int):Fn Try.prog 62 [.i n] (.bool (setB n)):=by
 have h:=z886 n 0 255
 refine z18 5 Try.call62 Try.func62 rfl (by decide) fun J=>?_
 simp only [go_sem,St.start,Try.ntmps62,Try.results62]
 repeat (first | refine nx ?_ | (refine z10 fun K hK=>?_;simp only [go_sem];(repeat (first | (refine ⟨_,.lent (hf:=h) (hd:=rfl) (hr:=rfl),?_⟩;simp only [go_sem]) | (refine ⟨_,.given (hf:=h) (hd:=rfl) (ha:=rfl),?_⟩;simp only [go_sem])));apply hK;clear hK K))
 simp only [go_sem,setB]
theorem z1087 (n:Int):Fn Try.prog 65 [.i n] (.bool (needB n)):=by
 have h:=z886 n 0 5000
 refine z18 5 Try.call65 Try.func65 rfl (by decide) fun J=>?_
 simp only [go_sem,St.start,Try.ntmps65,Try.results65]
 repeat (first | refine nx ?_ | (refine z10 fun K hK=>?_;simp only [go_sem];(repeat (first | (refine ⟨_,.lent (hf:=h) (hd:=rfl) (hr:=rfl),?_⟩;simp only [go_sem]) | (refine ⟨_,.given (hf:=h) (hd:=rfl) (ha:=rfl),?_⟩;simp only [go_sem])));apply hK;clear hK K))
 simp only [go_sem,needB]
theorem z1088 (goods:Int) (b:Batch) (hg:0≤goods∧goods<2 ^ 30):Fn Try.prog 64 [.agg b.row,.ptr [.i goods] 0] (.bool (batchB goods b)):=by
 have h1:=z886 b.good 0 (goods - 1)
 have h2:=z886 b.amount 0 1000000
 have h3:=z886 b.last 0 30
 have w:IntKind.i64.wrap (goods - 1)=goods - 1:=z17 (by omega)
 unfold batchB
 obtain ⟨b1,e1⟩:∃ x,x=withinB b.good 0 (goods - 1):=⟨_,rfl⟩
 obtain ⟨b2,e2⟩:∃ x,x=withinB b.amount 0 1000000:=⟨_,rfl⟩
 obtain ⟨b3,e3⟩:∃ x,x=withinB b.last 0 30:=⟨_,rfl⟩
 rw [← e1] at h1 ⊢
 rw [← e2] at h2 ⊢
 rw [← e3] at h3 ⊢
 refine z18 19 Try.call64 Try.func64 rfl (by decide) fun J=>?_
 simp only [go_sem,St.start,Try.ntmps64,Try.results64,Batch.row]
 cases b1 <;> cases b2
 all_goals
  repeat (first | refine nx ?_ | (refine z10 fun K hK=>?_;simp only [go_sem,w];(repeat (first | (refine ⟨_,.lent (hf:=h1) (hd:=rfl) (hr:=rfl),?_⟩;simp only [go_sem,w]) | (refine ⟨_,.lent (hf:=h2) (hd:=rfl) (hr:=rfl),?_⟩;simp only [go_sem,w]) | (refine ⟨_,.lent (hf:=h3) (hd:=rfl) (hr:=rfl),?_⟩;simp only [go_sem,w]) | (refine ⟨_,.given (hf:=h1) (hd:=rfl) (ha:=rfl),?_⟩;simp only [go_sem,w]) | (refine ⟨_,.given (hf:=h2) (hd:=rfl) (ha:=rfl),?_⟩;simp only [go_sem,w]) | (refine ⟨_,.given (hf:=h3) (hd:=rfl) (ha:=rfl),?_⟩;simp only [go_sem,w])));apply hK;clear hK K))
  simp only [go_sem,Bool.false_and,Bool.true_and]
theorem z1086 (goods:Int) (d:Dish) (hd:d.needs.length<2 ^ 30):Fn Try.prog 66 [.agg d.row,.ptr [.i goods] 0,.ptr [.fn 65 []] 0] (.bool (dishB goods d)):=by
 have h:=z1051 d.needs 65 [] needB (fun n _=>z1087 n) (by omega)
 unfold dishB
 obtain ⟨b1,e1⟩:∃ x,((d.needs.length:Int) == goods)=x:=⟨_,rfl⟩
 rw [e1]
 refine z18 16 Try.call66 Try.func66 rfl (by decide) fun J=>?_
 simp only [go_sem,St.start,Try.ntmps66,Try.results66,Dish.row]
 cases b1
 all_goals
  repeat (first | refine nx ?_ | (refine z10 fun K hK=>?_;simp only [go_sem,e1];(repeat (first | (refine ⟨_,.lent (hf:=h) (hd:=rfl) (hr:=rfl),?_⟩;simp only [go_sem,e1]) | (refine ⟨_,.given (hf:=h) (hd:=rfl) (ha:=rfl),?_⟩;simp only [go_sem,e1])));apply hK;clear hK K))
  simp only [go_sem,Bool.false_and,Bool.true_and]
theorem z1085 (g:Diners):Fn Try.prog 68 [.agg g.row] (.bool (groupB g)):=by
 have h:=z1053 g.no
 unfold groupB
 obtain ⟨b1,e1⟩:∃ x,x=setB g.no:=⟨_,rfl⟩
 obtain ⟨b2,e2⟩:∃ x,decide (0≤g.count.lo)=x:=⟨_,rfl⟩
 obtain ⟨b3,e3⟩:∃ x,decide (g.count.lo≤g.count.hi)=x:=⟨_,rfl⟩
 rw [← e1] at h ⊢
 rw [e2,e3]
 refine z18 27 Try.call68 Try.func68 rfl (by decide) fun J=>?_
 simp only [go_sem,St.start,Try.ntmps68,Try.results68,Diners.row]
 cases b1 <;> cases b2 <;> cases b3
 all_goals
  repeat (first | refine nx ?_ | (refine z10 fun K hK=>?_;simp only [go_sem,e2,e3];(repeat (first | (refine ⟨_,.lent (hf:=h) (hd:=rfl) (hr:=rfl),?_⟩;simp only [go_sem,e2,e3]) | (refine ⟨_,.given (hf:=h) (hd:=rfl) (ha:=rfl),?_⟩;simp only [go_sem,e2,e3])));apply hK;clear hK K))
  simp only [go_sem,Bool.false_and,Bool.true_and]
theorem z1084 (l:List Diners) (hl:l.length<2 ^ 30):Fn Try.prog 69 [.sl (dinRows l),.ptr [.fn 68 []] 0] (.bool (dayB l)):=by
 have h:=z1083 l 68 [] groupB (fun g _=>z1085 g) (by omega)
 unfold dayB
 obtain ⟨b1,e1⟩:∃ x,decide ((l.length:Int)≤3)=x:=⟨_,rfl⟩
 rw [e1]
 refine z18 12 Try.call69 Try.func69 rfl (by decide) fun J=>?_
 simp only [go_sem,St.start,Try.ntmps69,Try.results69]
 cases b1
 all_goals
  repeat (first | refine nx ?_ | (refine z10 fun K hK=>?_;simp only [go_sem,e1];(repeat (first | (refine ⟨_,.lent (hf:=h) (hd:=rfl) (hr:=rfl),?_⟩;simp only [go_sem,e1]) | (refine ⟨_,.given (hf:=h) (hd:=rfl) (ha:=rfl),?_⟩;simp only [go_sem,e1])));apply hK;clear hK K))
  simp only [go_sem,Bool.false_and,Bool.true_and]
theorem z1055 (k:Kitchen) (hs:KitSmall k):Fn Try.prog 35 [.agg k.cells] (.i (kitE k)):=by
 have a1:=hs.allerg
 have h1:=z886 (k.allerg.length:Int) 1 6
 have h2:=z1051 k.allerg 62 [] setB (fun n _=>z1053 n) (by omega)
 have h4:=z1082 k.batches 64 [.ptr [.i (k.allerg.length:Int)] 0] (batchB k.allerg.length) (fun b _=>z1088 _ b (by omega)) (by have:=hs.batches;omega)
 have h5:=z886 (k.dishes.length:Int) 1 5
 have h6:=z1081 k.dishes 66 [.ptr [.i (k.allerg.length:Int)] 0,.ptr [.fn 65 []] 0] (dishB k.allerg.length) (fun d hd=>z1086 _ d (hs.needs d hd)) (by have:=hs.dishes;omega)
 have h7:=z886 (k.days.length:Int) 1 6
 have h8:=z1080 k.days 69 [.ptr [.fn 68 []] 0] dayB (fun d hd=>z1084 d (hs.groups d hd)) (by have:=hs.days;omega)
 unfold kitE
 refine z18 65 Try.call35 Try.func35 rfl (by decide) fun J=>?_
 simp only [go_sem,St.start,Try.ntmps35,Try.results35,Kitchen.cells]
 repeat (first | refine nx ?_ | (refine z10 fun K hK=>?_;simp only [go_sem];apply hK;clear hK K))
 refine z131 [(64,.d (.bool (badKit k)))] [] ?_ ?_
 ·refine z10 fun K hK=>?_
  simp only [go_sem]
  refine ⟨_,.lent (hf:=h1) (hd:=rfl) (hr:=rfl),?_⟩
  simp only [go_sem]
  by_cases ho0:(!withinB (k.allerg.length:Int) 1 6)=true
  ·simp only [go_sem,ho0]
   apply hK
   clear hK K
   refine z34 ?_
   refine z23 ?_
   refine ⟨rfl,?_⟩
   rw [show (badKit k)=(true) from by simp [badKit,ho0]]
   simp only [go_sem]
   refine weA ?_ ?_ <;> simp
  ·simp only [go_sem,ho0]
   refine ⟨_,.lent (hf:=h2) (hd:=rfl) (hr:=rfl),?_⟩
   simp only [go_sem,ho0]
   by_cases ho1:(!k.allerg.all setB)=true
   ·simp only [go_sem,ho0,ho1]
    apply hK
    clear hK K
    refine z34 ?_
    refine z23 ?_
    refine ⟨rfl,?_⟩
    rw [show (badKit k)=(true) from by simp [badKit,ho0,ho1]]
    simp only [go_sem]
    refine weA ?_ ?_ <;> simp
   ·simp only [go_sem,ho0,ho1]
    by_cases ho2:(decide ((k.batches.length:Int) > 10))=true
    ·simp only [go_sem,ho0,ho1,ho2]
     apply hK
     clear hK K
     refine z34 ?_
     refine z23 ?_
     refine ⟨rfl,?_⟩
     rw [show (badKit k)=(true) from by simp [badKit,ho0,ho1,ho2]]
     simp only [go_sem]
     refine weA ?_ ?_ <;> simp
    ·simp only [go_sem,ho0,ho1,ho2]
     refine ⟨_,.lent (hf:=h4) (hd:=rfl) (hr:=rfl),?_⟩
     simp only [go_sem,ho0,ho1,ho2]
     by_cases ho3:(!k.batches.all (batchB k.allerg.length))=true
     ·simp only [go_sem,ho0,ho1,ho2,ho3]
      apply hK
      clear hK K
      refine z34 ?_
      refine z23 ?_
      refine ⟨rfl,?_⟩
      rw [show (badKit k)=(true) from by simp [badKit,ho0,ho1,ho2,ho3]]
      simp only [go_sem]
      refine weA ?_ ?_ <;> simp
     ·simp only [go_sem,ho0,ho1,ho2,ho3]
      refine ⟨_,.lent (hf:=h5) (hd:=rfl) (hr:=rfl),?_⟩
      simp only [go_sem,ho0,ho1,ho2,ho3]
      by_cases ho4:(!withinB (k.dishes.length:Int) 1 5)=true
      ·simp only [go_sem,ho0,ho1,ho2,ho3,ho4]
       apply hK
       clear hK K
       refine z34 ?_
       refine z23 ?_
       refine ⟨rfl,?_⟩
       rw [show (badKit k)=(true) from by simp [badKit,ho0,ho1,ho2,ho3,ho4]]
       simp only [go_sem]
       refine weA ?_ ?_ <;> simp
      ·simp only [go_sem,ho0,ho1,ho2,ho3,ho4]
       refine ⟨_,.lent (hf:=h6) (hd:=rfl) (hr:=rfl),?_⟩
       simp only [go_sem,ho0,ho1,ho2,ho3,ho4]
       by_cases ho5:(!k.dishes.all (dishB k.allerg.length))=true
       ·simp only [go_sem,ho0,ho1,ho2,ho3,ho4,ho5]
        apply hK
        clear hK K
        refine z34 ?_
        refine z23 ?_
        refine ⟨rfl,?_⟩
        rw [show (badKit k)=(true) from by simp [badKit,ho0,ho1,ho2,ho3,ho4,ho5]]
        simp only [go_sem]
        refine weA ?_ ?_ <;> simp
       ·simp only [go_sem,ho0,ho1,ho2,ho3,ho4,ho5]
        refine ⟨_,.lent (hf:=h7) (hd:=rfl) (hr:=rfl),?_⟩
        simp only [go_sem,ho0,ho1,ho2,ho3,ho4,ho5]
        by_cases ho6:(!withinB (k.days.length:Int) 1 6)=true
        ·simp only [go_sem,ho0,ho1,ho2,ho3,ho4,ho5,ho6]
         apply hK
         clear hK K
         refine z34 ?_
         refine z23 ?_
         refine ⟨rfl,?_⟩
         rw [show (badKit k)=(true) from by simp [badKit,ho0,ho1,ho2,ho3,ho4,ho5,ho6]]
         simp only [go_sem]
         refine weA ?_ ?_ <;> simp
        ·simp only [go_sem,ho0,ho1,ho2,ho3,ho4,ho5,ho6]
         refine ⟨_,.lent (hf:=h8) (hd:=rfl) (hr:=rfl),?_⟩
         simp only [go_sem,ho0,ho1,ho2,ho3,ho4,ho5,ho6]
         apply hK
         clear hK K
         refine z34 ?_
         refine z23 ?_
         refine ⟨rfl,?_⟩
         rw [show (badKit k)=(!k.days.all dayB) from by simp [badKit,ho0,ho1,ho2,ho3,ho4,ho5,ho6]]
         simp only [go_sem]
         refine weA ?_ ?_ <;> simp
 simp only [go_sem]
 repeat (first | refine nx ?_ | (refine z10 fun K hK=>?_;simp only [go_sem];apply hK;clear hK K))
 refine z14 rfl (fun hc=>?_) (fun hc=>?_)
 ·rw [hc]
  repeat (first | refine nx ?_ | (refine z10 fun K hK=>?_;simp only [go_sem];apply hK;clear hK K))
  simp only [go_sem,if_true]
 ·rw [hc]
  repeat (first | refine nx ?_ | (refine z10 fun K hK=>?_;simp only [go_sem];apply hK;clear hK K))
  simp only [go_sem,Bool.false_eq_true,if_false]
end Go.Ab
namespace Go.Ab
open Go.RowKit Go.Proofs
set_option maxHeartbeats 8000000
set_option maxRecDepth 20000
attribute [local irreducible] WalkL Walk
def badGood (a:List Int) (needs:List Int) (no:Int) (i:Nat):Bool:=decide (getI needs (i:Int) > 0) && (bAnd .i64 (getI a (i:Int)) no != 0)
def suitTo (a:List Int) (needs:List Int) (no:Int):Nat→Bool
 | 0=>true
 | i + 1=>suitTo a needs no i && !badGood a needs no i
def noDish:Dish:=⟨[]⟩
def dishAt (k:Kitchen) (n:Int):Dish:=k.dishes.getD n.toNat noDish
def suitsB (k:Kitchen) (n:Int) (no:Int):Bool:=suitTo k.allerg (dishAt k n).needs no (dishAt k n).needs.length
theorem z281 {a needs:List Int} {no:Int} {i:Nat} (h:badGood a needs no i=true):∀ {m:Nat},i<m→suitTo a needs no m=false:=by
 intro m hm
 induction hm with
 | refl=>rw [suitTo,h];simp
 | step _ ih=>rw [suitTo,ih];rfl
theorem z33 {l:List Int} {i:Nat} (h:i<l.length):(intRows l)[i]?=some [.i (getI l (i:Int))]:=by
 obtain ⟨x,hx⟩:∃ x,l[i]?=some x:=⟨_,List.getElem?_eq_getElem h⟩
 rw [z35 hx,getI,Int.toNat_natCast,List.getD,hx]
 rfl
theorem z679 {k:Kitchen} {n:Nat} (h:n<k.dishes.length):(dishRows k.dishes)[n]?=some [.sl (intRows (dishAt k (n:Int)).needs)]:=by
 obtain ⟨x,hx⟩:∃ x,k.dishes[n]?=some x:=⟨_,List.getElem?_eq_getElem h⟩
 rw [z142 hx,dishAt,Int.toNat_natCast,List.getD,hx]
 rfl
structure KitGood (k:Kitchen):Prop where
 goods:1≤k.allerg.length∧k.allerg.length≤6
 allerg:∀ n ∈ k.allerg,0≤n∧n≤255
 batches:k.batches.length≤10
 batch:∀ b ∈ k.batches,(0≤b.good∧b.good<k.allerg.length)∧(0≤b.amount∧b.amount≤1000000)∧(0≤b.last∧b.last≤30)
 dishes:1≤k.dishes.length∧k.dishes.length≤5
 needs:∀ d ∈ k.dishes,d.needs.length=k.allerg.length∧∀ n ∈ d.needs,0≤n∧n≤5000
 days:1≤k.days.length∧k.days.length≤6
 groups:∀ d ∈ k.days,d.length≤3∧∀ g ∈ d,(0≤g.no∧g.no≤255)∧(0≤g.count.lo∧g.count.lo≤g.count.hi∧g.count.hi≤100)
theorem z173 {k:Kitchen} (h:badKit k=false):KitGood k:=by
 simp only [badKit,Bool.or_eq_false_iff,Bool.not_eq_false',decide_eq_false_iff_not,List.all_eq_true] at h
 obtain ⟨h1,h2,h3,h4,h5,h6,h7,h8⟩:=h
 have h1:=z37.1 h1
 have h5:=z37.1 h5
 have h7:=z37.1 h7
 refine ⟨by omega,fun n hn=>z37.1 (h2 n hn),by omega,fun b hb=>?_,by omega,fun d hd=>?_,by omega,fun d hd=>?_⟩
 ·have:=h4 b hb
  simp only [batchB,Bool.and_eq_true] at this
  have q1:=z37.1 this.1
  exact ⟨by omega,z37.1 this.2.1,z37.1 this.2.2⟩
 ·have:=h6 d hd
  simp only [dishB,Bool.and_eq_true,beq_iff_eq,List.all_eq_true] at this
  exact ⟨by omega,fun n hn=>z37.1 (this.2 n hn)⟩
 ·have:=h8 d hd
  simp only [dayB,Bool.and_eq_true,decide_eq_true_eq,List.all_eq_true] at this
  refine ⟨by omega,fun g hg=>?_⟩
  have:=this.2 g hg
  simp only [groupB,Bool.and_eq_true,decide_eq_true_eq] at this
  exact ⟨z37.1 this.1,this.2⟩
theorem z160 {k:Kitchen}:kitE k=0↔badKit k=false:=by
 unfold kitE
 cases badKit k <;> simp
theorem z452 {k:Kitchen} (hg:KitGood k) {n:Nat} (h:n<k.dishes.length):(dishAt k (n:Int)).needs.length=k.allerg.length:=by
 obtain ⟨x,hx⟩:∃ x,k.dishes[n]?=some x:=⟨_,List.getElem?_eq_getElem h⟩
 have:dishAt k (n:Int)=x:=by rw [dishAt,Int.toNat_natCast,List.getD,hx];rfl
 rw [this]
 exact (hg.needs x (List.mem_of_getElem? hx)).1
theorem z1049 (k:Kitchen) (hg:KitGood k) (n:Nat) (no:Int) (hn:n<k.dishes.length):Fn Try.prog 86 [.agg k.cells,.i (n:Int),.i no] (.bool (suitsB k (n:Int) no)):=by
 have gd:=z679 hn
 have hl:=z452 hg hn
 have hgo:=hg.goods
 have hnn:¬ ((n:Int)<0):=by omega
 unfold suitsB
 obtain ⟨N,hN⟩:∃ N,N=(dishAt k (n:Int)).needs:=⟨_,rfl⟩
 rw [← hN] at gd hl ⊢
 refine z18 36 Try.call86 Try.func86 rfl (by decide) fun J=>?_
 simp only [go_sem,St.start,Try.ntmps86,Try.results86,Kitchen.cells]
 repeat (first | refine nx ?_ | (refine z10 fun K hK=>?_;simp only [go_sem,gd,hnn];apply hK;clear hK K))
 refine z15 (fun (i:Nat)=>[(17,.d (.i (i:Int)))]) (fun _=>[]) (fun i=>i≤N.length∧suitTo k.allerg N no i=true) (fun i=>N.length - i) 0 ?_ ⟨Nat.zero_le _,rfl⟩ ?_
 ·simp only [go_sem]
  refine weA ?_ ?_ <;> simp
 ·rintro i ⟨hi,hs⟩
  simp only [go_sem]
  repeat (first | refine nx ?_ | (refine z10 fun K hK=>?_;simp only [go_sem];apply hK;clear hK K))
  refine z14 rfl (fun hb=>?_) (fun hb=>?_)
  ·have hlt:i<N.length:=by simpa using hb
   have hw:IntKind.i64.wrap ((i:Int) + 1)=((i + 1:Nat):Int):=by rw [z17 (by omega)];simp
   have g1:=z33 hlt
   have g2:=z33 (l:=k.allerg) (i:=i) (by omega)
   have hni:¬ ((i:Int)<0):=by omega
   cases q1:decide (getI N (i:Int) > 0)
   ·have hbg:badGood k.allerg N no i=false:=by rw [badGood,q1];rfl
    repeat (first | refine z12 rfl ?_ | refine z11 rfl ?_ | refine nx ?_ | (refine z10 fun K hK=>?_;simp only [go_sem,g1,q1,hw];apply hK;clear hK K))
    refine ⟨rfl,i + 1,?_,⟨hlt,by rw [suitTo,hs,hbg];rfl⟩,by omega⟩
    refine weA ?_ ?_ <;> simp
   ·cases q2:(bAnd .i64 (getI k.allerg (i:Int)) no != 0)
    ·have hbg:badGood k.allerg N no i=false:=by rw [badGood,q2,Bool.and_false]
     repeat (first | refine z12 rfl ?_ | refine z11 rfl ?_ | refine nx ?_ | (refine z10 fun K hK=>?_;simp only [go_sem,g1,g2,q1,q2,hni,hw];apply hK;clear hK K))
     refine ⟨rfl,i + 1,?_,⟨hlt,by rw [suitTo,hs,hbg];rfl⟩,by omega⟩
     refine weA ?_ ?_ <;> simp
    ·have hbg:badGood k.allerg N no i=true:=by rw [badGood,q1,q2];rfl
     rw [z281 hbg hlt]
     repeat (first | refine z12 rfl ?_ | refine z11 rfl ?_ | refine nx ?_ | (refine z10 fun K hK=>?_;simp only [go_sem,g1,g2,q1,q2,hni];apply hK;clear hK K))
     simp only [go_sem]
  ·have he:i=N.length:=by (have:¬ i<N.length:=by simpa using hb);omega
   subst he
   rw [hs]
   repeat (first | refine nx ?_ | (refine z10 fun K hK=>?_;simp only [go_sem];apply hK;clear hK K))
   simp only [go_sem]
def menuB (k:Kitchen) (n:Int) (g:Diners):Bool:=withinB n 0 ((k.dishes.length:Int) - 1) && suitsB k n g.no
theorem z1074 (k:Kitchen) (hg:KitGood k) (n:Int) (g:Diners):Fn Try.prog 83 [.agg k.cells,.i n,.agg g.row] (.bool (menuB k n g)):=by
 have hd:=hg.dishes
 have h1:=z886 n 0 ((k.dishes.length:Int) - 1)
 have w:IntKind.i64.wrap ((k.dishes.length:Int) - 1)=(k.dishes.length:Int) - 1:=z17 (by omega)
 unfold menuB
 cases q:withinB n 0 ((k.dishes.length:Int) - 1)
 ·rw [q] at h1
  refine z18 21 Try.call83 Try.func83 rfl (by decide) fun J=>?_
  simp only [go_sem,St.start,Try.ntmps83,Try.results83,Kitchen.cells,Diners.row]
  repeat (first | refine nx ?_ | (refine z10 fun K hK=>?_;simp only [go_sem,w];(repeat (first | (refine ⟨_,.lent (hf:=h1) (hd:=rfl) (hr:=rfl),?_⟩;simp only [go_sem,w]) | (refine ⟨_,.given (hf:=h1) (hd:=rfl) (ha:=rfl),?_⟩;simp only [go_sem,w])));apply hK;clear hK K))
  simp only [go_sem,Bool.false_and]
 ·rw [q] at h1
  have r:=z37.1 q
  obtain ⟨m,rfl⟩:∃ m:Nat,n=m:=⟨n.toNat,by omega⟩
  have h2:=z1049 k hg m g.no (by omega)
  rw [Kitchen.cells] at h2
  refine z18 21 Try.call83 Try.func83 rfl (by decide) fun J=>?_
  simp only [go_sem,St.start,Try.ntmps83,Try.results83,Kitchen.cells,Diners.row]
  repeat (first | refine nx ?_ | (refine z10 fun K hK=>?_;simp only [go_sem,w];(repeat (first | (refine ⟨_,.lent (hf:=h1) (hd:=rfl) (hr:=rfl),?_⟩;simp only [go_sem,w]) | (refine ⟨_,.lent (hf:=h2) (hd:=rfl) (hr:=rfl),?_⟩;simp only [go_sem,w]) | (refine ⟨_,.given (hf:=h1) (hd:=rfl) (ha:=rfl),?_⟩;simp only [go_sem,w]) | (refine ⟨_,.given (hf:=h2) (hd:=rfl) (ha:=rfl),?_⟩;simp only [go_sem,w])));apply hK;clear hK K))
  simp only [go_sem,Bool.true_and]
def rowOk (q:Int→Diners→Bool):List Int→List Diners→Bool
 | [],[]=>true
 | n::l,g::gs=>q n g && rowOk q l gs
 | _,_=>false
def shapedB (q:Int→Diners→Bool):List (List Int)→List (List Diners)→Bool
 | [],[]=>true
 | r::l,d::ds=>rowOk q r d && shapedB q l ds
 | _,_=>false
theorem z66 {q:Int→Diners→Bool}:∀ {l:List Int} {d:List Diners},rowOk q l d=true→l.length=d.length
 | [],[],_=>rfl
 | _::l,_::d,h=>by
  rw [rowOk,Bool.and_eq_true] at h
  simp [z66 h.2]
 | [],_::_,h=>by cases h
 | _::_,[],h=>by cases h
theorem z38 {q:Int→Diners→Bool}:∀ {l:List (List Int)} {d:List (List Diners)},shapedB q l d=true→l.length=d.length
 | [],[],_=>rfl
 | _::l,_::d,h=>by
  rw [shapedB,Bool.and_eq_true] at h
  simp [z38 h.2]
 | [],_::_,h=>by cases h
 | _::_,[],h=>by cases h
theorem z1031 (k:Kitchen) (hg:KitGood k) (M:List (List Int)) (hM:M.length<2 ^ 30) (hMr:∀ r ∈ M,r.length<2 ^ 30):Fn Try.prog 52 [.agg k.cells,.sl (listRows M),.bnd 83 [.agg k.cells]] (.bool (shapedB (menuB k) M k.days)):=by
 have hdd:=hg.days
 have hgr:=hg.groups
 obtain ⟨q,hq⟩:∃ q,q=menuB k:=⟨_,rfl⟩
 have h137:=fun (n:Int) (g:Diners)=>z1074 k hg n g
 simp only [← hq] at h137
 rw [← hq]
 rw [Kitchen.cells] at h137
 obtain ⟨R,hR⟩:∃ R,R=shapedB q M k.days:=⟨_,rfl⟩
 rw [← hR]
 cases q1:((M.length:Int) != (k.days.length:Int))
 ·have hl:M.length=k.days.length:=by
   simp only [bne_eq_false_iff_eq] at q1
   omega
  refine z18 55 Try.call52 Try.func52 rfl (by decide) fun J=>?_
  simp only [go_sem,St.start,Try.ntmps52,Try.results52,Kitchen.cells]
  repeat (first | refine z12 rfl ?_ | refine z11 rfl ?_ | refine nx ?_ | (refine z10 fun K hK=>?_;simp only [go_sem,q1];apply hK;clear hK K))
  refine z15 (fun (i:Nat)=>[(22,.d (.i (i:Int)))]) (fun _=>[]) (fun i=>i≤k.days.length∧R=shapedB q (M.drop i) (k.days.drop i)) (fun i=>k.days.length - i) 0 ?_ ⟨Nat.zero_le _,hR⟩ ?_
  ·simp only [go_sem]
   refine weA ?_ ?_ <;> simp
  ·rintro i ⟨hi,hRi⟩
   simp only [go_sem]
   repeat (first | refine nx ?_ | (refine z10 fun K hK=>?_;simp only [go_sem];apply hK;clear hK K))
   refine z14 rfl (fun hb=>?_) (fun hb=>?_)
   ·have hlt:i<k.days.length:=by simpa using hb
    have hw:IntKind.i64.wrap ((i:Int) + 1)=((i + 1:Nat):Int):=by rw [z17 (by omega)];simp
    obtain ⟨d,hd⟩:∃ d,k.days[i]?=some d:=⟨_,List.getElem?_eq_getElem hlt⟩
    obtain ⟨r,hr⟩:∃ r,M[i]?=some r:=⟨_,List.getElem?_eq_getElem (by omega)⟩
    have g1:=z73 hd
    have g2:=z32 hr
    have hni:¬ ((i:Int)<0):=by omega
    have hd3:=(hgr d (List.mem_of_getElem? hd)).1
    rw [z29 hd,z29 hr,shapedB] at hRi
    cases q2:((r.length:Int) != (d.length:Int))
    ·have hrl:r.length=d.length:=by
      simp only [bne_eq_false_iff_eq] at q2
      omega
     repeat (first | refine z12 rfl ?_ | refine z11 rfl ?_ | refine nx ?_ | (refine z10 fun K hK=>?_;simp only [go_sem,g1,g2,hni,q2];apply hK;clear hK K))
     refine z15 (fun (j:Nat)=>[(37,.d (.i (j:Int)))]) (fun _=>[]) (fun j=>j≤d.length∧R=(rowOk q (r.drop j) (d.drop j) && shapedB q (M.drop (i + 1)) (k.days.drop (i + 1)))) (fun j=>d.length - j) 0 ?_ ⟨Nat.zero_le _,hRi⟩ ?_
     ·simp only [go_sem]
      refine weA ?_ ?_ <;> simp
     ·rintro j ⟨hj,hRj⟩
      simp only [go_sem]
      repeat (first | refine nx ?_ | (refine z10 fun K hK=>?_;simp only [go_sem];apply hK;clear hK K))
      refine z14 rfl (fun hb=>?_) (fun hb=>?_)
      ·have hltj:j<d.length:=by simpa using hb
       have hwj:IntKind.i64.wrap ((j:Int) + 1)=((j + 1:Nat):Int):=by rw [z17 (by omega)];simp
       obtain ⟨g,hgj⟩:∃ g,d[j]?=some g:=⟨_,List.getElem?_eq_getElem hltj⟩
       obtain ⟨n,hnj⟩:∃ n,r[j]?=some n:=⟨_,List.getElem?_eq_getElem (by omega)⟩
       have g3:=z84 hgj
       have g4:=z35 hnj
       rw [Diners.row] at g3
       have hnjj:¬ ((j:Int)<0):=by omega
       have hc:=h137 n g
       rw [Diners.row] at hc
       rw [z29 hgj,z29 hnj,rowOk] at hRj
       cases q3:q n g
       ·rw [q3] at hRj hc
        rw [Bool.false_and,Bool.false_and] at hRj
        rw [hRj]
        repeat (first | refine nx ?_ | (refine z10 fun K hK=>?_;simp only [go_sem,g3];apply hK;clear hK K))
        refine z16 (by kernel_rfl) (by kernel_rfl) fun K hK=>?_
        simp only [go_sem,g2,g4,hni,hnjj]
        refine ⟨_,.fn (hf:=hc) (hd:=rfl) (hr:=.inl rfl),?_⟩
        simp only [go_sem]
        refine ⟨by kernel_rfl,hK _ ?_⟩
        clear hK K
        repeat (first | refine z12 rfl ?_ | refine z11 rfl ?_ | refine nx ?_ | (refine z10 fun K hK=>?_;simp only [go_sem];apply hK;clear hK K))
        simp only [go_sem]
       ·rw [q3] at hRj hc
        rw [Bool.true_and] at hRj
        repeat (first | refine nx ?_ | (refine z10 fun K hK=>?_;simp only [go_sem,g3];apply hK;clear hK K))
        refine z16 (by kernel_rfl) (by kernel_rfl) fun K hK=>?_
        simp only [go_sem,g2,g4,hni,hnjj]
        refine ⟨_,.fn (hf:=hc) (hd:=rfl) (hr:=.inl rfl),?_⟩
        simp only [go_sem]
        refine ⟨by kernel_rfl,hK _ ?_⟩
        clear hK K
        repeat (first | refine z12 rfl ?_ | refine z11 rfl ?_ | refine nx ?_ | (refine z10 fun K hK=>?_;simp only [go_sem,hwj];apply hK;clear hK K))
        refine ⟨rfl,j + 1,?_,⟨hltj,hRj⟩,by omega⟩
        refine weA ?_ ?_ <;> simp
      ·have he:j=d.length:=by (have:¬ j<d.length:=by simpa using hb);omega
       subst he
       rw [List.drop_length,← hrl,List.drop_length,rowOk,Bool.true_and] at hRj
       repeat (first | refine nx ?_ | (refine z10 fun K hK=>?_;simp only [go_sem,hw];apply hK;clear hK K))
       refine ⟨rfl,i + 1,?_,⟨hlt,hRj⟩,by omega⟩
       refine weA ?_ ?_ <;> simp
    ·have hf:rowOk q r d=false:=by
      cases hx:rowOk q r d with
      | false=>rfl
      | true =>
       have:=z66 hx
       rw [this] at q2
       simp at q2
     rw [hf,Bool.false_and] at hRi
     rw [hRi]
     repeat (first | refine z12 rfl ?_ | refine z11 rfl ?_ | refine nx ?_ | (refine z10 fun K hK=>?_;simp only [go_sem,g1,g2,hni,q2];apply hK;clear hK K))
     simp only [go_sem]
   ·have he:i=k.days.length:=by (have:¬ i<k.days.length:=by simpa using hb);omega
    subst he
    rw [List.drop_length,← hl,List.drop_length,shapedB] at hRi
    rw [hRi]
    repeat (first | refine nx ?_ | (refine z10 fun K hK=>?_;simp only [go_sem];apply hK;clear hK K))
    simp only [go_sem]
 ·have hf:R=false:=by
   rw [hR]
   cases hx:shapedB q M k.days with
   | false=>rfl
   | true =>
    have:=z38 hx
    rw [this] at q1
    simp at q1
  rw [hf]
  refine z18 55 Try.call52 Try.func52 rfl (by decide) fun J=>?_
  simp only [go_sem,St.start,Try.ntmps52,Try.results52,Kitchen.cells]
  repeat (first | refine z12 rfl ?_ | refine z11 rfl ?_ | refine nx ?_ | (refine z10 fun K hK=>?_;simp only [go_sem,q1];apply hK;clear hK K))
  simp only [go_sem]
def openK (k:Kitchen) (M:List (List Int)):Int:=if kitE k=0 then (if shapedB (menuB k) M k.days then 0 else 71) else kitE k
theorem z1033 (k:Kitchen) (M:List (List Int)) (hs:KitSmall k) (hM:M.length<2 ^ 30) (hMr:∀ r ∈ M,r.length<2 ^ 30):Fn Try.prog 48 [.agg k.cells,.sl (listRows M)] (.tup [.agg k.cells,.i (openK k M)]):=by
 have h135:=z1055 k hs
 unfold openK
 rw [Kitchen.cells] at h135
 by_cases h0:kitE k=0
 ·rw [if_pos h0]
  rw [h0] at h135
  have h136:=z1031 k (z173 (z160.1 h0)) M hM hMr
  rw [Kitchen.cells] at h136
  cases q:shapedB (menuB k) M k.days
  ·rw [q] at h136
   refine z18 24 Try.call48 Try.func48 rfl (by decide) fun J=>?_
   simp only [go_sem,St.start,Try.ntmps48,Try.results48,Kitchen.cells]
   repeat (first | refine z12 rfl ?_ | refine z11 rfl ?_ | refine nx ?_ | (refine z10 fun K hK=>?_;simp only [go_sem];(repeat (first | (refine ⟨_,.lent (hf:=h135) (hd:=rfl) (hr:=rfl),?_⟩;simp only [go_sem]) | (refine ⟨_,.lent (hf:=h136) (hd:=rfl) (hr:=rfl),?_⟩;simp only [go_sem]) | (refine ⟨_,.given (hf:=h135) (hd:=rfl) (ha:=rfl),?_⟩;simp only [go_sem]) | (refine ⟨_,.given (hf:=h136) (hd:=rfl) (ha:=rfl),?_⟩;simp only [go_sem])));apply hK;clear hK K))
   simp only [go_sem]
  ·rw [q] at h136
   refine z18 24 Try.call48 Try.func48 rfl (by decide) fun J=>?_
   simp only [go_sem,St.start,Try.ntmps48,Try.results48,Kitchen.cells]
   repeat (first | refine z12 rfl ?_ | refine z11 rfl ?_ | refine nx ?_ | (refine z10 fun K hK=>?_;simp only [go_sem];(repeat (first | (refine ⟨_,.lent (hf:=h135) (hd:=rfl) (hr:=rfl),?_⟩;simp only [go_sem]) | (refine ⟨_,.lent (hf:=h136) (hd:=rfl) (hr:=rfl),?_⟩;simp only [go_sem]) | (refine ⟨_,.given (hf:=h135) (hd:=rfl) (ha:=rfl),?_⟩;simp only [go_sem]) | (refine ⟨_,.given (hf:=h136) (hd:=rfl) (ha:=rfl),?_⟩;simp only [go_sem])));apply hK;clear hK K))
   simp only [go_sem]
 ·rw [if_neg h0]
  have hz:(kitE k != 0)=true:=by simpa using h0
  obtain ⟨e,he⟩:∃ e,e=kitE k:=⟨_,rfl⟩
  rw [← he] at h135 hz ⊢
  refine z18 24 Try.call48 Try.func48 rfl (by decide) fun J=>?_
  simp only [go_sem,St.start,Try.ntmps48,Try.results48,Kitchen.cells]
  repeat (first | refine z12 rfl ?_ | refine z11 rfl ?_ | refine nx ?_ | (refine z10 fun K hK=>?_;simp only [go_sem,hz];(repeat (first | (refine ⟨_,.lent (hf:=h135) (hd:=rfl) (hr:=rfl),?_⟩;simp only [go_sem,hz]) | (refine ⟨_,.given (hf:=h135) (hd:=rfl) (ha:=rfl),?_⟩;simp only [go_sem,hz])));apply hK;clear hK K))
  simp only [go_sem]
end Go.Ab
namespace Go.Ab
open Go.RowKit Go.Proofs
set_option maxHeartbeats 8000000
set_option maxRecDepth 20000
attribute [local irreducible] WalkL Walk
def cmpI (a b:Int):Int:=if a<b then -1 else if a > b then 1 else 0
theorem z1006 (n:Int):Fn Try.prog 100 [.i n] (.bool false):=by
 have q:(n != n)=false:=by simp
 refine z18 6 Try.call100 Try.func100 rfl (by decide) fun J=>?_
 simp only [go_sem,St.start,Try.ntmps100,Try.results100]
 repeat (first | refine nx ?_ | (refine z10 fun K hK=>?_;simp only [go_sem,q];apply hK;clear hK K))
 simp only [go_sem]
theorem z1075 (a b:Int):Fn Try.prog 82 [.i a,.i b] (.i (cmpI a b)):=by
 have h1:=z1006 a
 have h2:=z1006 b
 unfold cmpI
 by_cases q1:a<b
 ·rw [if_pos q1]
  have d:decide (a<b)=true:=decide_eq_true q1
  refine z18 20 Try.call82 Try.func82 rfl (by decide) fun J=>?_
  simp only [go_sem,St.start,Try.ntmps82,Try.results82]
  repeat (first | refine z12 rfl ?_ | refine z11 rfl ?_ | refine nx ?_ | (refine z10 fun K hK=>?_;simp only [go_sem,d];(repeat (first | (refine ⟨_,.lent (hf:=h1) (hd:=rfl) (hr:=rfl),?_⟩;simp only [go_sem,d]) | (refine ⟨_,.lent (hf:=h2) (hd:=rfl) (hr:=rfl),?_⟩;simp only [go_sem,d]) | (refine ⟨_,.given (hf:=h1) (hd:=rfl) (ha:=rfl),?_⟩;simp only [go_sem,d]) | (refine ⟨_,.given (hf:=h2) (hd:=rfl) (ha:=rfl),?_⟩;simp only [go_sem,d])));apply hK;clear hK K))
  simp only [go_sem]
 ·rw [if_neg q1]
  have d:decide (a<b)=false:=decide_eq_false q1
  by_cases q2:a > b
  ·rw [if_pos q2]
   have d2:decide (a > b)=true:=decide_eq_true q2
   refine z18 20 Try.call82 Try.func82 rfl (by decide) fun J=>?_
   simp only [go_sem,St.start,Try.ntmps82,Try.results82]
   repeat (first | refine z12 rfl ?_ | refine z11 rfl ?_ | refine nx ?_ | (refine z10 fun K hK=>?_;simp only [go_sem,d,d2];(repeat (first | (refine ⟨_,.lent (hf:=h1) (hd:=rfl) (hr:=rfl),?_⟩;simp only [go_sem,d,d2]) | (refine ⟨_,.lent (hf:=h2) (hd:=rfl) (hr:=rfl),?_⟩;simp only [go_sem,d,d2]) | (refine ⟨_,.given (hf:=h1) (hd:=rfl) (ha:=rfl),?_⟩;simp only [go_sem,d,d2]) | (refine ⟨_,.given (hf:=h2) (hd:=rfl) (ha:=rfl),?_⟩;simp only [go_sem,d,d2])));apply hK;clear hK K))
   simp only [go_sem]
  ·rw [if_neg q2]
   have d2:decide (a > b)=false:=decide_eq_false q2
   refine z18 20 Try.call82 Try.func82 rfl (by decide) fun J=>?_
   simp only [go_sem,St.start,Try.ntmps82,Try.results82]
   repeat (first | refine z12 rfl ?_ | refine z11 rfl ?_ | refine nx ?_ | (refine z10 fun K hK=>?_;simp only [go_sem,d,d2];(repeat (first | (refine ⟨_,.lent (hf:=h1) (hd:=rfl) (hr:=rfl),?_⟩;simp only [go_sem,d,d2]) | (refine ⟨_,.lent (hf:=h2) (hd:=rfl) (hr:=rfl),?_⟩;simp only [go_sem,d,d2]) | (refine ⟨_,.given (hf:=h1) (hd:=rfl) (ha:=rfl),?_⟩;simp only [go_sem,d,d2]) | (refine ⟨_,.given (hf:=h2) (hd:=rfl) (ha:=rfl),?_⟩;simp only [go_sem,d,d2])));apply hK;clear hK K))
   simp only [go_sem]
def noBatch:Batch:=⟨0,0,0⟩
def batAt (k:Kitchen) (i:Nat):Batch:=k.batches.getD i noBatch
theorem z261 {k:Kitchen} {i:Nat} (h:i<k.batches.length):(batRows k.batches)[i]?=some (batAt k i).row:=by
 obtain ⟨x,hx⟩:∃ x,k.batches[i]?=some x:=⟨_,List.getElem?_eq_getElem h⟩
 rw [z243 hx,batAt,List.getD,hx]
 rfl
theorem z1076 (k:Kitchen) (a b:Nat) (ha:a<k.batches.length) (hb:b<k.batches.length):Fn Try.prog 81 [.i (a:Int),.i (b:Int),.ptr k.cells 0] (.i (cmpI (batAt k a).last (batAt k b).last)):=by
 have h:=z1075 (batAt k a).last (batAt k b).last
 have ga:=z261 ha
 have gb:=z261 hb
 have na:¬ ((a:Int)<0):=by omega
 have nb:¬ ((b:Int)<0):=by omega
 rw [Batch.row] at ga gb
 refine z18 21 Try.call81 Try.func81 rfl (by decide) fun J=>?_
 simp only [go_sem,St.start,Try.ntmps81,Try.results81,Kitchen.cells]
 repeat (first | refine nx ?_ | (refine z10 fun K hK=>?_;simp only [go_sem];apply hK;clear hK K))
 refine z16 (by kernel_rfl) (by kernel_rfl) fun K hK=>?_
 simp only [go_sem,ga,gb,na,nb]
 refine ⟨_,.fn (hf:=h) (hd:=rfl) (hr:=.inl rfl),?_⟩
 simp only [go_sem]
 refine ⟨by kernel_rfl,hK _ ?_⟩
 clear hK K
 repeat (first | refine nx ?_ | (refine z10 fun K hK=>?_;simp only [go_sem];apply hK;clear hK K))
 simp only [go_sem]
def swapN (L:List Nat) (j:Nat):List Nat:=(L.set (j + 1) (L.getD j 0)).set j (L.getD (j + 1) 0)
def sinkN (f:Nat→Int):List Nat→Nat→List Nat
 | L,0=>L
 | L,j + 1=>if f (L.getD (j + 1) 0)<f (L.getD j 0) then sinkN f (swapN L j) j else L
def insN (f:Nat→Int) (L:List Nat):Nat→List Nat
 | 0=>L
 | i + 1=>sinkN f (insN f L i) (i + 1)
def natRows (L:List Nat):List (List DV):=L.map fun (n:Nat)=>[DV.i (n:Int)]
theorem z666 (L:List Nat):(natRows L).length=L.length:=by simp [natRows]
theorem z526 (L:List Nat):headIs 1 (natRows L)=true:=by cases L <;> rfl
theorem z102 {L:List Nat} {i:Nat} (h:i<L.length):(natRows L)[i]?=some [.i ((L.getD i 0:Nat):Int)]:=by
 obtain ⟨x,hx⟩:∃ x,L[i]?=some x:=⟨_,List.getElem?_eq_getElem h⟩
 rw [natRows,List.getElem?_map,hx,List.getD,hx]
 rfl
theorem z290 (L:List Nat) (i x:Nat):(natRows L).set i [.i (x:Int)]=natRows (L.set i x):=by simp [natRows,List.map_set]
attribute [go_sem] z666 z526
theorem z276 (L:List Nat) (j:Nat):(swapN L j).length=L.length:=by simp [swapN]
theorem z496 {L:List Nat} {j:Nat} (hj:j + 1<L.length) {x:Nat} (h:x ∈ swapN L j):x ∈ L:=by
 have g1:L.getD j 0 ∈ L:=by
  rw [List.getD,List.getElem?_eq_getElem (by omega)]
  exact List.getElem_mem _
 have g2:L.getD (j + 1) 0 ∈ L:=by
  rw [List.getD,List.getElem?_eq_getElem hj]
  exact List.getElem_mem _
 rcases List.mem_or_eq_of_mem_set h with h | h
 ·rcases List.mem_or_eq_of_mem_set h with h | h
  ·exact h
  ·rw [h];exact g1
 ·rw [h];exact g2
theorem z501 (f:Nat→Int):∀ (j:Nat) (L:List Nat),(sinkN f L j).length=L.length
 | 0,_=>rfl
 | j + 1,L=>by
  rw [sinkN]
  split
  ·rw [z501 f j,z276]
  ·rfl
theorem z500 (f:Nat→Int):∀ (j:Nat) (L:List Nat),j<L.length→∀ x ∈ sinkN f L j,x ∈ L
 | 0,_,_,_,h=>h
 | j + 1,L,hj,x,h=>by
  rw [sinkN] at h
  split at h
  ·exact z496 hj (z500 f j _ (by rw [z276];omega) x h)
  ·exact h
theorem z267 (f:Nat→Int) (L:List Nat):∀ i,(insN f L i).length=L.length
 | 0=>rfl
 | i + 1=>by rw [insN,z501,z267 f L i]
theorem z444 (f:Nat→Int) (L:List Nat):∀ i,i<L.length∨i=0→∀ x ∈ insN f L i,x ∈ L
 | 0,_,_,h=>h
 | i + 1,hi,x,h=>z444 f L i (by omega) x (z500 f (i + 1) _ (by rw [z267];omega) x h)
def ordK (k:Kitchen):List Nat:=insN (fun i=>(batAt k i).last) (List.range k.batches.length) (k.batches.length - 1)
theorem z95 (k:Kitchen):(ordK k).length=k.batches.length:=by rw [ordK,z267,List.length_range]
theorem z68 {k:Kitchen} {x:Nat} (h:x ∈ ordK k):x<k.batches.length:=List.mem_range.1 (z444 _ _ _ (by rw [List.length_range];omega) x h)
theorem z1039 (k:Kitchen) (L:List Nat) (hL:∀ x ∈ L,x<k.batches.length) (hl:L.length<2 ^ 30) :
  FnG Try.prog 107 [.arr 3 1 (natRows L)] [0] [.own 0,.d (.i 0),.d (.i (L.length:Int)),.d (.fn 81 [.ptr k.cells 0])] (.tup []) [.arr 3 1 (natRows (insN (fun i=>(batAt k i).last) L (L.length - 1)))]:=by
 obtain ⟨f,hf⟩:∃ f:Nat→Int,f=fun i=>(batAt k i).last:=⟨_,rfl⟩
 rw [← hf]
 have hcmp:=fun a b ha hb=>z1076 k a b ha hb
 have e1:IntKind.i64.wrap (0 + 1)=((0 + 1:Nat):Int):=by decide
 rw [Kitchen.cells] at hcmp
 rw [Kitchen.cells]
 have hcm:∀ a b:Int,decide (cmpI a b<0)=decide (a<b):=fun a b=>by
  unfold cmpI
  split
  ·simp [*]
  ·split <;> simp [*]
 refine z62 53 Try.call107 Try.func107 rfl (by decide) [] [(0,0)] (by simp only [List.length_cons,List.length_nil];decide) (by kernel_rfl) fun J=>?_
 simp only [go_sem,St.startG,Try.ntmps107,Try.results107,List.map_cons,List.map_nil,List.range_succ]
 repeat (first | refine nx ?_ | (refine z10 fun K hK=>?_;simp only [go_sem,e1];apply hK;clear hK K))
 refine z15 (fun (a:Nat)=>[(8,.d (.i ((a + 1:Nat):Int)))]) (fun a=>[(53,some (.arr 3 1 (natRows (insN f L a))))]) (fun a=>a=0∨a + 1≤L.length) (fun a=>L.length - a) 0 ?_ (.inl rfl) ?_
 ·simp only [go_sem,insN]
  refine weA ?_ ?_ <;> simp
  all_goals first | done | rfl
 ·intro a ha
  have hAl:=z267 f L a
  have hAm:=z444 f L a (by omega)
  simp only [go_sem]
  repeat (first | refine nx ?_ | (refine z10 fun K hK=>?_;simp only [go_sem];apply hK;clear hK K))
  refine z14 rfl (fun hb=>?_) (fun hb=>?_)
  ·have hlt:a + 1<L.length:=by have:=of_decide_eq_true hb;omega
   have hw:IntKind.i64.wrap (((a + 1:Nat):Int) + 1)=((a + 1 + 1:Nat):Int):=by rw [z17 (by omega)];omega
   obtain ⟨A,hA⟩:∃ A,A=insN f L a:=⟨_,rfl⟩
   have hnx:insN f L (a + 1)=sinkN f A (a + 1):=by rw [insN,hA]
   rw [← hA] at hAl hAm ⊢
   repeat (first | refine nx ?_ | (refine z10 fun K hK=>?_;simp only [go_sem];apply hK;clear hK K))
   refine z15 (fun (q:Nat × List Nat)=>[(9,.d (.i (q.1:Int)))]) (fun q=>[(53,some (.arr 3 1 (natRows q.2)))]) (fun q=>q.1≤a + 1∧q.2.length=L.length∧(∀ x ∈ q.2,x<k.batches.length)∧sinkN f q.2 q.1=sinkN f A (a + 1)) (fun q=>q.1) (a + 1,A) ?_ ⟨Nat.le_refl _,hAl,fun x hx=>hL x (hAm x hx),rfl⟩ ?_
   ·simp only [go_sem]
    refine weA ?_ ?_ <;> simp
    all_goals first | done | rfl
   ·rintro ⟨j,cur⟩ ⟨hj,hcl,hcx,hsk⟩
    dsimp only at hj hcl hcx hsk
    have fin:∀ X:List Nat,X=sinkN f A (a + 1)→natRows X=natRows (insN f L (a + 1)):=fun X h=>by rw [hnx,h]
    cases j with
    | zero =>
     have hX:cur=insN f L (a + 1):=by rw [hnx,← hsk];rfl
     have d0:decide ((0:Int) > 0)=false:=rfl
     simp only [go_sem]
     repeat (first | refine nx ?_ | (refine z10 fun K hK=>?_;simp only [go_sem];apply hK;clear hK K))
     refine z16 (by kernel_rfl) (by kernel_rfl) fun K hK=>?_
     simp only [go_sem,d0]
     refine ⟨by kernel_rfl,hK _ ?_⟩
     clear hK K
     repeat (first | refine z12 rfl ?_ | refine z11 rfl ?_ | refine nx ?_ | (refine z10 fun K hK=>?_;simp only [go_sem,hw];apply hK;clear hK K))
     refine ⟨rfl,a + 1,?_,.inr (by omega),by omega⟩
     rw [hX]
     refine weA ?_ ?_ <;> simp
     all_goals first | done | rfl
    | succ j =>
     have w1:IntKind.i64.wrap (((j + 1:Nat):Int) - 1)=(j:Int):=by rw [z17 (by omega)];omega
     have d1:decide (((j + 1:Nat):Int) > 0)=true:=decide_eq_true (by omega)
     have n1:¬ (((j + 1:Nat):Int)<0):=by omega
     have n0:¬ ((j:Int)<0):=by omega
     have k1:j + 1<cur.length:=by omega
     have k0:j<cur.length:=by omega
     have g1:=z102 (L:=cur) (i:=j + 1) (by omega)
     have g0:=z102 (L:=cur) (i:=j) (by omega)
     obtain ⟨x,hx⟩:∃ x,cur.getD (j + 1) 0=x:=⟨_,rfl⟩
     obtain ⟨y,hy⟩:∃ y,cur.getD j 0=y:=⟨_,rfl⟩
     have hxm:x ∈ cur:=by
      rw [← hx,List.getD,List.getElem?_eq_getElem (by omega:j + 1<cur.length)]
      exact List.getElem_mem _
     have hym:y ∈ cur:=by
      rw [← hy,List.getD,List.getElem?_eq_getElem (by omega:j<cur.length)]
      exact List.getElem_mem _
     rw [hx] at g1
     rw [hy] at g0
     have hc:=hcmp x y (hcx x hxm) (hcx y hym)
     have hfx:(batAt k x).last=f x:=by rw [hf]
     have hfy:(batAt k y).last=f y:=by rw [hf]
     rw [hfx,hfy] at hc
     rw [sinkN,hx,hy] at hsk
     have hd:=hcm (f x) (f y)
     obtain ⟨cv,hcv⟩:∃ cv,cv=cmpI (f x) (f y):=⟨_,rfl⟩
     rw [← hcv] at hc hd
     by_cases hlt2:f x<f y
     ·rw [if_pos hlt2] at hsk
      rw [decide_eq_true hlt2] at hd
      obtain ⟨C1,hC1⟩:∃ C1,C1=cur.set (j + 1) y:=⟨_,rfl⟩
      have su1:(natRows cur).set (j + 1) [.i (y:Int)]=natRows C1:=by rw [z290,hC1]
      have hC1l:C1.length=cur.length:=by rw [hC1];simp
      have g2:(natRows C1)[j]?=some [.i (y:Int)]:=by
       have:=z102 (L:=C1) (i:=j) (by omega)
       rw [this,hC1,List.getD,List.getElem?_set_ne (by omega),← List.getD,hy]
      have su2:(natRows C1).set j [.i (x:Int)]=natRows (swapN cur j):=by rw [z290,hC1,swapN,hx,hy]
      simp only [go_sem]
      repeat (first | refine nx ?_ | (refine z10 fun K hK=>?_;simp only [go_sem];apply hK;clear hK K))
      refine z16 (by kernel_rfl) (by kernel_rfl) fun K hK=>?_
      simp only [go_sem,d1,w1,n1,n0,k1,k0,g1,g0]
      refine ⟨_,.fn (hf:=hc) (hd:=rfl) (hr:=.inl rfl),?_⟩
      simp only [go_sem,hd]
      refine ⟨by kernel_rfl,hK _ ?_⟩
      clear hK K
      refine z12 rfl ?_
      repeat (first | refine nx ?_ | (refine z10 fun K hK=>?_;simp only [go_sem];apply hK;clear hK K))
      have k2:j<C1.length:=by omega
      refine z16 (by kernel_rfl) (by kernel_rfl) fun K hK=>?_
      simp only [go_sem,w1,n1,n0,k1,k0,k2,g1,g0,su1,g2,su2]
      refine ⟨by kernel_rfl,hK _ ?_⟩
      clear hK K
      repeat (first | refine nx ?_ | (refine z10 fun K hK=>?_;simp only [go_sem,w1];apply hK;clear hK K))
      refine ⟨rfl,(j,swapN cur j),?_,⟨by dsimp only;omega,by dsimp only;rw [z276];exact hcl,fun z hz=>hcx z (z496 (by omega) hz),hsk⟩,by dsimp only;omega⟩
      refine weA ?_ ?_ <;> simp
      all_goals first | done | rfl
     ·rw [if_neg hlt2] at hsk
      rw [decide_eq_false hlt2] at hd
      have hX:cur=insN f L (a + 1):=by rw [hnx,← hsk]
      simp only [go_sem]
      repeat (first | refine nx ?_ | (refine z10 fun K hK=>?_;simp only [go_sem];apply hK;clear hK K))
      refine z16 (by kernel_rfl) (by kernel_rfl) fun K hK=>?_
      simp only [go_sem,d1,w1,n1,n0,k1,k0,g1,g0]
      refine ⟨_,.fn (hf:=hc) (hd:=rfl) (hr:=.inl rfl),?_⟩
      simp only [go_sem,hd]
      refine ⟨by kernel_rfl,hK _ ?_⟩
      clear hK K
      repeat (first | refine z12 rfl ?_ | refine z11 rfl ?_ | refine nx ?_ | (refine z10 fun K hK=>?_;simp only [go_sem,hw];apply hK;clear hK K))
      refine ⟨rfl,a + 1,?_,.inr (by omega),by omega⟩
      rw [← hX]
      refine weA ?_ ?_ <;> simp
      all_goals first | done | rfl
  ·have he:a=L.length - 1:=by (have:¬ a + 1<L.length:=by intro h;have:=decide_eq_true (p:=((a + 1:Nat):Int)<(L.length:Int)) (by omega);rw [this] at hb;cases hb);omega
   subst he
   repeat (first | refine nx ?_ | (refine z10 fun K hK=>?_;simp only [go_sem];apply hK;clear hK K))
   simp only [go_sem,retG]
end Go.Ab
namespace Go.Ab
open Go.RowKit Go.Proofs
set_option maxHeartbeats 8000000
set_option maxRecDepth 20000
attribute [local irreducible] WalkL Walk
def sortK (k:Kitchen) (L:List Nat):List Nat:=insN (fun i=>(batAt k i).last) L (L.length - 1)
theorem z527 (L:List Nat):rowsFlat (natRows L):=by
 intro r hr d hd
 obtain ⟨x,_,rfl⟩:=List.mem_map.1 hr
 rw [List.mem_singleton.1 hd]
 rfl
theorem z1061 (k:Kitchen) (L:List Nat) (hL:∀ x ∈ L,x<k.batches.length) (hl:L.length≤10) :
  FnG Try.prog 99 [.arr 3 1 (natRows L)] [0] [.own 0,.d (.i (L.length:Int)),.d (.fn 81 [.ptr k.cells 0])] (.tup []) [.arr 3 1 (natRows (sortK k L))]:=by
 have h:=z1039 k L hL (by omega)
 change FnG Try.prog 107 _ _ _ _ [.arr 3 1 (natRows (sortK k L))] at h
 rw [Kitchen.cells] at h ⊢
 have d1:decide ((20:Int)≤(L.length:Int))=false:=decide_eq_false (by omega)
 have d2:decide ((20:Int)<(L.length:Int))=false:=decide_eq_false (by omega)
 obtain ⟨S,hS⟩:∃ S,S=sortK k L:=⟨_,rfl⟩
 rw [← hS] at h ⊢
 refine z62 63 Try.call99 Try.func99 rfl (by decide) [] [(0,0)] (by simp only [List.length_cons,List.length_nil];decide) (by kernel_rfl) fun J=>?_
 simp only [go_sem,St.startG,Try.ntmps99,Try.results99,List.map_cons,List.map_nil,List.range_succ]
 repeat (first | refine nx ?_ | (refine z10 fun K hK=>?_;simp only [go_sem];apply hK;clear hK K))
 refine z15 (fun (_:Unit)=>[(7,.d (.i 0)),(8,.d (.i 20))]) (fun _=>[]) (fun _=>True) (fun _=>0) () ?_ trivial ?_
 ·simp only [go_sem]
  refine weA ?_ ?_ <;> simp
 ·intro _ _
  simp only [go_sem]
  repeat (first | refine z12 rfl ?_ | refine z11 rfl ?_ | refine nx ?_ | (refine z10 fun K hK=>?_;simp only [go_sem,d1];apply hK;clear hK K))
  refine z10 fun K hK=>?_
  simp only [go_sem]
  refine ⟨_,.own (ns:=[63]) (news:=[]) (bads:=[]) (rd:=[]) (hf:=h) (hnd:=by decide) (hl0:=rfl) (hl1:=rfl) (hm:=by repeat (first | exact trivial | refine And.intro ?_ ?_ | rfl)) (hnew:=rfl) (hla:=rfl) (ha:=z24 (by repeat (first | exact trivial | refine And.intro ?_ ?_ | exact z27 rfl | exact z21 rfl rfl))) (hrd:=rfl) (hsh:=z22 _) (hb:=rfl) (hfl:=.inl rfl),?_⟩
  simp only [go_sem,List.map_cons,List.map_nil]
  apply hK
  clear hK K
  repeat (first | refine nx ?_ | (refine z10 fun K hK=>?_;simp only [go_sem];apply hK;clear hK K))
  refine z15 (fun (_:Unit)=>[(6,.d (.i 20))]) (fun _=>[(63,some (.arr 3 1 (natRows S)))]) (fun _=>True) (fun _=>0) () ?_ trivial ?_
  ·simp only [go_sem]
   refine weA ?_ ?_ <;> simp
  ·intro _ _
   simp only [go_sem]
   repeat (first | refine z12 rfl ?_ | refine z11 rfl ?_ | refine nx ?_ | (refine z10 fun K hK=>?_;simp only [go_sem,d2];apply hK;clear hK K))
   simp only [go_sem,retG]
theorem z1077 (k:Kitchen) (L:List Nat) (hL:∀ x ∈ L,x<k.batches.length) (hl:L.length≤10) :
  FnG Try.prog 80 [.arr 3 1 (natRows L)] [0] [.own 0,.d (.fn 81 [.ptr k.cells 0])] (.tup []) [.arr 3 1 (natRows (sortK k L))]:=by
 have h:=z1061 k L hL hl
 rw [Kitchen.cells] at h ⊢
 obtain ⟨S,hS⟩:∃ S,S=sortK k L:=⟨_,rfl⟩
 rw [← hS] at h ⊢
 refine z62 9 Try.call80 Try.func80 rfl (by decide) [] [(0,0)] (by simp only [List.length_cons,List.length_nil];decide) (by kernel_rfl) fun J=>?_
 simp only [go_sem,St.startG,Try.ntmps80,Try.results80,List.map_cons,List.map_nil,List.range_succ]
 repeat (first | refine nx ?_ | (refine z10 fun K hK=>?_;simp only [go_sem];apply hK;clear hK K))
 refine z10 fun K hK=>?_
 simp only [go_sem]
 refine ⟨_,.own (ns:=[9]) (news:=[]) (bads:=[]) (rd:=[]) (hf:=h) (hnd:=by decide) (hl0:=rfl) (hl1:=rfl) (hm:=by repeat (first | exact trivial | refine And.intro ?_ ?_ | rfl)) (hnew:=rfl) (hla:=rfl) (ha:=z24 (by repeat (first | exact trivial | refine And.intro ?_ ?_ | exact z27 rfl | exact z21 rfl rfl))) (hrd:=rfl) (hsh:=z22 _) (hb:=rfl) (hfl:=.inl rfl),?_⟩
 simp only [go_sem,List.map_cons,List.map_nil]
 apply hK
 clear hK K
 repeat (first | refine nx ?_ | (refine z10 fun K hK=>?_;simp only [go_sem];apply hK;clear hK K))
 simp only [go_sem,retG]
def amtK (k:Kitchen):List Int:=k.batches.map (·.amount)
def lardRow (k:Kitchen) (l o:AV) (w:Int):List AV:=[.d (.sl (intRows k.allerg)),.d (.sl (batRows k.batches)),.d (.sl (dishRows k.dishes)),.d (.sl (dayRows k.days)),l,o,.d (.i w)]
theorem z1000 (k:Kitchen) (hb:k.batches.length≤10):FnG Try.prog 41 [] [] [.d (.agg k.cells)] (.box 0 0) [.box (lardRow k (.own 1) (.own 2) 0),.arr 3 1 (intRows (amtK k)),.arr 3 1 (natRows (ordK k))]:=by
 have h:=z1077 k (List.range k.batches.length) (fun x hx=>List.mem_range.1 hx) (by simpa using hb)
 have hord:sortK k (List.range k.batches.length)=ordK k:=by rw [sortK,ordK,List.length_range]
 rw [hord] at h
 obtain ⟨O,hO⟩:∃ O,O=ordK k:=⟨_,rfl⟩
 rw [← hO] at h ⊢
 rw [Kitchen.cells] at h
 refine z62 47 Try.call41 Try.func41 rfl (by decide) [8,26,36] [] (by simp only [List.length_cons,List.length_nil];decide) (by kernel_rfl) fun J=>?_
 simp only [go_sem,St.startG,Try.ntmps41,Try.results41,List.map_cons,List.map_nil,List.range_succ,  Kitchen.cells,lardRow]
 repeat (first | refine nx ?_ | (refine z10 fun K hK=>?_;simp only [go_sem];apply hK;clear hK K))
 refine z15 (fun (i:Nat)=>[(13,.d (.i (i:Int)))]) (fun i=>[(8,some (.box (lardRow k (.own 26) (.own 36) 0))),(26,some (.arr 3 1 (intRows ((amtK k).take i)))),(36,some (.arr 3 1 (natRows (List.range i))))]) (fun i=>i≤k.batches.length) (fun i=>k.batches.length - i) 0 ?_ (Nat.zero_le _) ?_
 ·simp only [go_sem,lardRow]
  refine z63 [26,36] ?_ ?_ rfl rfl <;> simp [lessT,lessM,lessB,AV.less]
  all_goals first | done | rfl | exact ⟨rfl,rfl⟩ | trace_state
 ·intro i hi
  simp only [go_sem,lardRow]
  repeat (first | refine nx ?_ | (refine z10 fun K hK=>?_;simp only [go_sem];apply hK;clear hK K))
  refine z14 rfl (fun hb2=>?_) (fun hb2=>?_)
  ·have hlt:i<k.batches.length:=by simpa using hb2
   have hw:IntKind.i64.wrap ((i:Int) + 1)=((i + 1:Nat):Int):=by rw [z17 (by omega)];simp
   have gb:=z261 hlt
   rw [Batch.row] at gb
   obtain ⟨A,hA⟩:∃ A,A=(amtK k).take i:=⟨_,rfl⟩
   have hAl:A.length≤10:=by rw [hA];simp;omega
   have hn:A.length + 1≤549755813888:=by omega
   have hn2:i + 1≤549755813888:=by omega
   have e1:(amtK k).take (i + 1)=A++[(batAt k i).amount]:=by
    obtain ⟨x,hx⟩:∃ x,k.batches[i]?=some x:=⟨_,List.getElem?_eq_getElem hlt⟩
    have hx2:(amtK k)[i]?=some x.amount:=by simp [amtK,hx]
    rw [List.take_add_one,hx2,← hA,batAt,List.getD,hx]
    rfl
   have s1:intRows A++[[.i (batAt k i).amount]]=intRows ((amtK k).take (i + 1)):=by rw [e1];simp [intRows]
   have s2:natRows (List.range i)++[[.i (i:Int)]]=natRows (List.range (i + 1)):=by rw [List.range_succ];simp [natRows]
   rw [← hA]
   repeat (first | refine nx ?_ | (refine z10 fun K hK=>?_;simp only [go_sem,gb];apply hK;clear hK K))
   refine z474 (by kernel_rfl) (by kernel_rfl) fun K hK=>?_
   simp only [go_sem,hn,s1]
   refine ⟨by kernel_rfl,hK _ ?_⟩
   clear hK K
   repeat (first | refine nx ?_ | (refine z10 fun K hK=>?_;simp only [go_sem,hn2,List.length_range,s2,hw];apply hK;clear hK K))
   refine ⟨rfl,i + 1,?_,hlt,by omega⟩
   simp only [go_sem,lardRow]
   refine weA ?_ ?_ <;> simp
   all_goals first | done | rfl | exact ⟨rfl,rfl⟩ | trace_state
  ·have he:i=k.batches.length:=by (have:¬ i<k.batches.length:=by simpa using hb2);omega
   subst he
   have e1:(amtK k).take k.batches.length=amtK k:=by rw [amtK,List.take_of_length_le (by simp)]
   rw [e1]
   repeat (first | refine nx ?_ | (refine z10 fun K hK=>?_;simp only [go_sem];apply hK;clear hK K))
   refine z10 fun K hK=>?_
   simp only [go_sem]
   refine ⟨_,.own (ns:=[36]) (news:=[]) (bads:=[]) (rd:=[1]) (hf:=h) (hnd:=by decide) (hl0:=rfl) (hl1:=rfl) (hm:=by repeat (first | exact trivial | refine And.intro ?_ ?_ | rfl)) (hnew:=rfl) (hla:=rfl) (ha:=z24 (by repeat (first | exact trivial | refine And.intro ?_ ?_ | exact z27 rfl | exact z21 rfl rfl))) (hrd:=rfl) (hsh:=by intro n hn row hrow k hk;simp at hn;subst hn;simp at hrow;subst hrow;simp [AV.refs,AV.refs.AV.refss] at hk) (hb:=rfl) (hfl:=.inr ⟨rfl,by simp only [List.all_cons,List.all_nil,Bool.and_true];exact z868 (z527 _)⟩),?_⟩
   simp only [go_sem,List.map_cons,List.map_nil]
   apply hK
   clear hK K
   repeat (first | refine nx ?_ | (refine z10 fun K hK=>?_;simp only [go_sem];apply hK;clear hK K))
   simp only [go_sem,retG,lardRow]
end Go.Ab
namespace Go.Ab
open Go.RowKit Go.Proofs
set_option maxHeartbeats 8000000
set_option maxRecDepth 20000
attribute [local irreducible] WalkL Walk
theorem z999 (l:List Int) (hl:l.length<2 ^ 30):FnS Try.prog 77 [.sl (intRows l)] 3 1 (intRows l):=by
 have h1:l.length≤549755813888:=by omega
 have h2:0 + l.length≤549755813888:=by omega
 cases l with
 | nil =>
  have e:intRows []=[]:=rfl
  rw [e]
  refine z269 8 Try.call77 Try.func77 rfl (by decide) fun J=>?_
  simp only [go_sem,St.start,Try.ntmps77,Try.results77]
  repeat (first | refine nx ?_ | (refine z10 fun K hK=>?_;simp only [go_sem,List.isEmpty_nil];apply hK;clear hK K))
  refine z807 rfl ?_ ?_
  ·repeat (first | refine nx ?_ | (refine z10 fun K hK=>?_;simp only [go_sem];apply hK;clear hK K))
   simp only [go_sem]
  ·repeat (first | refine nx ?_ | (refine z10 fun K hK=>?_;simp only [go_sem,List.nil_append,List.length_nil];apply hK;clear hK K))
   simp only [go_sem]
 | cons x l =>
  have hne:(intRows (x::l)).isEmpty=false:=rfl
  obtain ⟨L,hL⟩:∃ L,L=x::l:=⟨_,rfl⟩
  rw [← hL] at hne h1 h2 ⊢
  refine z269 8 Try.call77 Try.func77 rfl (by decide) fun J=>?_
  simp only [go_sem,St.start,Try.ntmps77,Try.results77]
  repeat (first | refine nx ?_ | (refine z10 fun K hK=>?_;simp only [go_sem,hne];apply hK;clear hK K))
  refine z11 rfl ?_
  repeat (first | refine nx ?_ | (refine z10 fun K hK=>?_;simp only [go_sem,h1,h2,List.nil_append,List.length_nil];apply hK;clear hK K))
  simp only [go_sem]
def dinAt (k:Kitchen) (day group:Nat):Diners:=(k.days.getD day []).getD group ⟨0,⟨0,0⟩⟩
theorem z311 {k:Kitchen} {day:Nat} (h:day<k.days.length):(dayRows k.days)[day]?=some [.sl (dinRows (k.days.getD day []))]:=by
 obtain ⟨x,hx⟩:∃ x,k.days[day]?=some x:=⟨_,List.getElem?_eq_getElem h⟩
 rw [z73 hx,List.getD,hx]
 rfl
theorem z566 {k:Kitchen} {day group:Nat} (h:group<(k.days.getD day []).length):(dinRows (k.days.getD day []))[group]?=some (dinAt k day group).row:=by
 unfold dinAt
 obtain ⟨D,hD⟩:∃ D,D=k.days.getD day []:=⟨_,rfl⟩
 rw [← hD] at h ⊢
 obtain ⟨x,hx⟩:∃ x,D[group]?=some x:=⟨_,List.getElem?_eq_getElem h⟩
 rw [z84 hx,List.getD,hx]
 rfl
theorem z1024 (k:Kitchen) (day group:Nat) (hd:day<k.days.length) (hg:group<(k.days.getD day []).length):Fn Try.prog 46 [.agg k.cells,.i (day:Int),.i (group:Int)] (.i (dinAt k day group).count.hi):=by
 have g1:=z311 hd
 have g2:=z566 hg
 have n1:¬ ((day:Int)<0):=by omega
 have n2:¬ ((group:Int)<0):=by omega
 rw [Diners.row] at g2
 refine z18 18 Try.call46 Try.func46 rfl (by decide) fun J=>?_
 simp only [go_sem,St.start,Try.ntmps46,Try.results46,Kitchen.cells]
 repeat (first | refine nx ?_ | (refine z10 fun K hK=>?_;simp only [go_sem,g1,g2,n1,n2];apply hK;clear hK K))
 simp only [go_sem]
theorem z1091 (k:Kitchen) (day group:Nat) (hd:day<k.days.length) (hg:group<(k.days.getD day []).length):Fn Try.prog 57 [.agg k.cells,.i (day:Int),.i (group:Int)] (.i (dinAt k day group).count.lo):=by
 have g1:=z311 hd
 have g2:=z566 hg
 have n1:¬ ((day:Int)<0):=by omega
 have n2:¬ ((group:Int)<0):=by omega
 rw [Diners.row] at g2
 refine z18 18 Try.call57 Try.func57 rfl (by decide) fun J=>?_
 simp only [go_sem,St.start,Try.ntmps57,Try.results57,Kitchen.cells]
 repeat (first | refine nx ?_ | (refine z10 fun K hK=>?_;simp only [go_sem,g1,g2,n1,n2];apply hK;clear hK K))
 simp only [go_sem]
def clrTo (k:Kitchen) (day:Int) (l:List Int) (w:Int):Nat→List Int × Int
 | 0=>(l,w)
 | j + 1=>if (batAt k j).last<day then ((clrTo k day l w j).1.set j 0,(clrTo k day l w j).2 + getI (clrTo k day l w j).1 (j:Int)) else clrTo k day l w j
theorem z45 (k:Kitchen) (day:Int) (l:List Int) (w:Int):∀ j,(clrTo k day l w j).1.length=l.length
 | 0=>rfl
 | j + 1=>by
  rw [clrTo]
  split
  ·simp [z45 k day l w j]
  ·exact z45 k day l w j
def AmtOk (l:List Int):Prop:=∀ x ∈ l,0≤x∧x≤1000000
theorem AmtOk.get {l:List Int} (h:AmtOk l) (i:Int):0≤getI l i∧getI l i≤1000000:=z163 h (by decide) i
theorem AmtOk.set {l:List Int} (h:AmtOk l) (i:Nat) {x:Int} (hx:0≤x∧x≤1000000):AmtOk (l.set i x):=fun y hy=>by
 rcases List.mem_or_eq_of_mem_set hy with hy | rfl
 ·exact h y hy
 ·exact hx
theorem z51 {k:Kitchen} {day:Int} {l:List Int} {w:Int} (h:AmtOk l):∀ j,AmtOk (clrTo k day l w j).1∧w≤(clrTo k day l w j).2∧(clrTo k day l w j).2≤w + 1000000 * j
 | 0=>⟨h,Int.le_refl _,by simp [clrTo]⟩
 | j + 1=>by
  obtain ⟨h1,h2,h3⟩:=z51 (k:=k) (day:=day) (w:=w) h j
  rw [clrTo]
  split
  ·have:=h1.get (j:Int)
   refine ⟨h1.set j (by decide),?_,?_⟩ <;> dsimp only <;> omega
  ·exact ⟨h1,h2,by omega⟩
theorem z888 (k:Kitchen) (hb:k.batches.length≤10) (day:Int) (l:List Int) (o:List Nat) (w:Int) (hl:l.length=k.batches.length) (ha:AmtOk l) (hw0:0≤w∧w≤2 ^ 40) :
  FnG Try.prog 42 [.box (lardRow k (.own 1) (.own 2) w),.arr 3 1 (intRows l),.arr 3 1 (natRows o)] [0] [.box 0 0,.d (.i day)] (.tup [])
   [.box (lardRow k (.own 1) (.own 2) (clrTo k day l w k.batches.length).2),.arr 3 1 (intRows (clrTo k day l w k.batches.length).1),.arr 3 1 (natRows o)]:=by
 have hst0:clrTo k day l w 0=(l,w):=rfl
 obtain ⟨R,hR⟩:∃ R,R=clrTo k day l w:=⟨_,rfl⟩
 have hRl:∀ j,(R j).1.length=l.length:=by rw [hR];exact z45 k day l w
 have hRo:∀ j,AmtOk (R j).1∧w≤(R j).2∧(R j).2≤w + 1000000 * j:=by rw [hR];exact z51 ha
 have hRs:∀ j,R (j + 1)=if (batAt k j).last<day then ((R j).1.set j 0,(R j).2 + getI (R j).1 (j:Int)) else R j:=by rw [hR];exact fun j=>rfl
 rw [← hR] at hst0
 rw [show clrTo k day l w=R from hR.symm]
 refine z62 43 Try.call42 Try.func42 rfl (by decide) [] [(0,0)] (by simp only [List.length_cons,List.length_nil];decide) (by kernel_rfl) fun J=>?_
 simp only [go_sem,St.startG,Try.ntmps42,Try.results42,List.map_cons,List.map_nil,List.range_succ,  lardRow]
 repeat (first | refine nx ?_ | (refine z10 fun K hK=>?_;simp only [go_sem];apply hK;clear hK K))
 refine z15 (fun (i:Nat)=>[(13,.d (.i (i:Int)))]) (fun i=>[(43,some (.box (lardRow k (.own 44) (.own 45) (R i).2))),(44,some (.arr 3 1 (intRows (R i).1)))]) (fun i=>i≤k.batches.length) (fun i=>k.batches.length - i) 0 ?_ (Nat.zero_le _) ?_
 ·rw [hst0]
  simp only [go_sem,lardRow]
  refine weA ?_ ?_ <;> simp
  all_goals first | done | rfl | trace_state
 ·intro i hi
  have hAl:=hRl i
  obtain ⟨hok,hw1,hw2⟩:=hRo i
  have hnx:=hRs i
  obtain ⟨⟨A,v⟩,hAv⟩:∃ p,R i=p:=⟨_,rfl⟩
  rw [hAv] at hAl hok hw1 hw2 hnx ⊢
  dsimp only at hAl hok hw1 hw2 hnx ⊢
  simp only [go_sem,lardRow]
  repeat (first | refine nx ?_ | (refine z10 fun K hK=>?_;simp only [go_sem];apply hK;clear hK K))
  refine z14 rfl (fun hb2=>?_) (fun hb2=>?_)
  ·have hlt:i<k.batches.length:=by simpa using hb2
   have hw:IntKind.i64.wrap ((i:Int) + 1)=((i + 1:Nat):Int):=by rw [z17 (by omega)];simp
   have gb:=z261 hlt
   rw [Batch.row] at gb
   have hni:¬ ((i:Int)<0):=by omega
   have hiA:i<A.length:=by omega
   have gA:=z33 hiA
   have hg:=hok.get (i:Int)
   have e1:IntKind.i64.wrap (v + getI A (i:Int))=v + getI A (i:Int):=z17 (by omega)
   have su:(intRows A).set i [.i 0]=intRows (A.set i 0):=z69 A i 0
   by_cases hq:(batAt k i).last<day
   ·rw [if_pos hq] at hnx
    have d:decide ((batAt k i).last<day)=true:=decide_eq_true hq
    repeat (first | refine z12 rfl ?_ | refine z11 rfl ?_ | refine nx ?_ | (refine z10 fun K hK=>?_;simp only [go_sem,gb,d];apply hK;clear hK K))
    refine z16 (by kernel_rfl) (by kernel_rfl) fun K hK=>?_
    simp only [go_sem,hni,hiA,gA,e1]
    refine ⟨by kernel_rfl,hK _ ?_⟩
    clear hK K
    repeat (first | refine nx ?_ | (refine z10 fun K hK=>?_;simp only [go_sem,hni,hiA,gA,su,hw];apply hK;clear hK K))
    refine ⟨rfl,i + 1,?_,hlt,by omega⟩
    rw [hnx]
    simp only [go_sem,lardRow]
    refine weA ?_ ?_ <;> simp
    all_goals first | done | rfl | trace_state
   ·rw [if_neg hq] at hnx
    have d:decide ((batAt k i).last<day)=false:=decide_eq_false hq
    repeat (first | refine z12 rfl ?_ | refine z11 rfl ?_ | refine nx ?_ | (refine z10 fun K hK=>?_;simp only [go_sem,gb,d,hw];apply hK;clear hK K))
    refine ⟨rfl,i + 1,?_,hlt,by omega⟩
    rw [hnx]
    simp only [go_sem,lardRow]
    refine weA ?_ ?_ <;> simp
    all_goals first | done | rfl | trace_state
  ·have he:i=k.batches.length:=by (have:¬ i<k.batches.length:=by simpa using hb2);omega
   subst he
   rw [hAv]
   repeat (first | refine nx ?_ | (refine z10 fun K hK=>?_;simp only [go_sem];apply hK;clear hK K))
   simp only [go_sem,retG,lardRow]
end Go.Ab
namespace Go.Ab
open Go.RowKit Go.Proofs
set_option maxHeartbeats 16000000
set_option maxRecDepth 20000
attribute [local irreducible] WalkL Walk
def needG (k:Kitchen) (ds:List Int) (cnt:Nat→Int) (good:Nat):Nat→Int
 | 0=>0
 | g + 1=>needG k ds cnt good g + getI (dishAt k (getI ds (g:Int))).needs (good:Int) * cnt g
def needL (k:Kitchen) (ds:List Int) (cnt:Nat→Int):List Int:=(List.range k.allerg.length).map fun x=>needG k ds cnt x ds.length
theorem z310 {k:Kitchen} (hg:KitGood k) {n:Nat} (h:n<k.dishes.length) (i:Int):0≤getI (dishAt k (n:Int)).needs i∧getI (dishAt k (n:Int)).needs i≤5000:=by
 obtain ⟨x,hx⟩:∃ x,k.dishes[n]?=some x:=⟨_,List.getElem?_eq_getElem h⟩
 have:dishAt k (n:Int)=x:=by rw [dishAt,Int.toNat_natCast,List.getD,hx];rfl
 rw [this]
 exact z163 (hg.needs x (List.mem_of_getElem? hx)).2 (by decide) i
structure DayOk (k:Kitchen) (ds:List Int) (cnt:Nat→Int):Prop where
 len:ds.length≤3
 dish:∀ g<ds.length,∃ n:Nat,ds[g]?=some (n:Int)∧n<k.dishes.length
 cnt:∀ g<ds.length,0≤cnt g∧cnt g≤100
theorem z232 {k:Kitchen} (hg:KitGood k) {ds:List Int} {cnt:Nat→Int} (hd:DayOk k ds cnt) (good:Nat):∀ g:Nat,g≤ds.length→0≤needG k ds cnt good g∧needG k ds cnt good g≤500000 * g
 | 0,_=>by simp [needG]
 | g + 1,h=>by
  have ih:=z232 hg hd good g (by omega)
  obtain ⟨n,hn,hnl⟩:=hd.dish g (by omega)
  have hc:=hd.cnt g (by omega)
  have e:getI ds (g:Int)=n:=by rw [getI,Int.toNat_natCast,List.getD,hn];rfl
  have q:=z310 hg hnl (good:Int)
  have m1:0≤getI (dishAt k (n:Int)).needs (good:Int) * cnt g:=Int.mul_nonneg q.1 hc.1
  have m2:getI (dishAt k (n:Int)).needs (good:Int) * cnt g≤5000 * 100:=Int.mul_le_mul q.2 hc.2 hc.1 (by decide)
  rw [needG,e]
  omega
def mixL (G:Nat) (a b:Nat→Int) (j:Nat):List Int:=(List.range G).map fun x=>if x<j then b x else a x
theorem z265 (G:Nat) (a b:Nat→Int) (j:Nat):(mixL G a b j).length=G:=by simp [mixL]
theorem z976 (G:Nat) (a b:Nat→Int) {j:Nat} (h:j<G):(mixL G a b j)[j]?=some (a j):=by simp [mixL,h]
theorem z924 (G:Nat) (a b:Nat→Int) {j:Nat} (h:j<G):(mixL G a b j).set j (b j)=mixL G a b (j + 1):=by
 refine List.ext_getElem? fun i=>?_
 rw [List.getElem?_set,z265]
 by_cases hi:i<G
 ·by_cases he:j=i
  ·subst he
   rw [if_pos rfl,if_pos hi]
   simp [mixL,hi]
  ·rw [if_neg he]
   have:(i<j + 1)=(i<j):=by apply propext;omega
   simp [mixL,hi,this]
 ·rw [List.getElem?_eq_none (l:=mixL G a b (j + 1)) (by rw [z265];omega)]
  by_cases he:j=i
  ·omega
  ·rw [if_neg he,List.getElem?_eq_none (by rw [z265];omega)]
theorem z925 (G:Nat) (a b:Nat→Int):mixL G a b G=(List.range G).map b:=by
 unfold mixL
 refine List.map_congr_left fun x hx=>?_
 rw [if_pos (List.mem_range.1 hx)]
theorem z846 (G:Nat) (a b:Nat→Int):mixL G a b 0=(List.range G).map a:=by
 unfold mixL
 refine List.map_congr_left fun x hx=>?_
 rw [if_neg (by omega)]
theorem z887 (k:Kitchen) (hg:KitGood k) (ds:List Int) (cnt:Nat→Int) (g:Nat) (caps:List DV) (hd:DayOk k ds cnt) (hc:∀ j,j<ds.length→Fn Try.prog g (.i (j:Int)::caps) (.i (cnt j))) :
  FnS Try.prog 44 [.agg k.cells,.sl (intRows ds),.fn g caps] 3 1 (intRows (needL k ds cnt)):=by
 have hgo:=hg.goods
 have hdl:=hd.len
 have hmk:(k.allerg.length:Int)≤1099511627776:=by omega
 have hrep:=z301 k.allerg.length
 unfold needL
 obtain ⟨G,hG⟩:∃ G,G=k.allerg.length:=⟨_,rfl⟩
 obtain ⟨f,hf⟩:∃ f:Nat→Nat→Int,f=fun i x=>needG k ds cnt x i:=⟨_,rfl⟩
 have hf0:intRows (List.replicate G 0)=intRows ((List.range G).map (f 0)):=by
  rw [hf]
  congr 1
  refine List.ext_getElem? fun i=>?_
  by_cases hi:i<G <;> simp [hi,needG,List.getElem?_replicate]
 have hfr:∀ i x,i≤ds.length→0≤f i x∧f i x≤500000 * i:=fun i x hi=>by rw [hf];exact z232 hg hd x i hi
 have hfs:∀ i x,f (i + 1) x=f i x + getI (dishAt k (getI ds (i:Int))).needs (x:Int) * cnt i:=fun i x=>by rw [hf];rfl
 rw [show (fun x=>needG k ds cnt x ds.length)=f ds.length by rw [hf]]
 rw [← hG] at hmk hrep hgo ⊢
 refine z269 51 Try.call44 Try.func44 rfl (by decide) fun J=>?_
 simp only [go_sem,St.start,Try.ntmps44,Try.results44,Kitchen.cells]
 repeat (first | refine nx ?_ | (refine z10 fun K hK=>?_;simp only [go_sem,← hG,hmk,hrep];apply hK;clear hK K))
 refine z15 (fun (i:Nat)=>[(19,.d (.i (i:Int)))]) (fun i=>[(16,some (.arr 3 1 (intRows ((List.range G).map (f i)))))]) (fun i=>i≤ds.length) (fun i=>ds.length - i) 0 ?_ (Nat.zero_le _) ?_
 ·rw [← hf0]
  simp only [go_sem]
  refine weA ?_ ?_ <;> simp
  all_goals first | done | rfl | trace_state
 ·intro i hi
  simp only [go_sem]
  repeat (first | refine nx ?_ | (refine z10 fun K hK=>?_;simp only [go_sem];apply hK;clear hK K))
  refine z14 rfl (fun hb=>?_) (fun hb=>?_)
  ·have hlt:i<ds.length:=by simpa using hb
   have hw:IntKind.i64.wrap ((i:Int) + 1)=((i + 1:Nat):Int):=by rw [z17 (by omega)];simp
   obtain ⟨n,hn,hnl⟩:=hd.dish i hlt
   have g1:=z35 hn
   have gd:=z679 hnl
   have hl:=z452 hg hnl
   have hnn:¬ ((n:Int)<0):=by omega
   have hci:=hc i hlt
   have hcr:=hd.cnt i hlt
   have e:getI ds (i:Int)=n:=by rw [getI,Int.toNat_natCast,List.getD,hn];rfl
   have hq:=fun x:Nat=>z310 hg hnl (x:Int)
   have hfi:=hfs i
   rw [e] at hfi
   obtain ⟨N,hN⟩:∃ N,N=(dishAt k (n:Int)).needs:=⟨_,rfl⟩
   rw [← hN,← hG] at hl
   rw [← hN] at gd
   rw [← hN] at hq hfi
   repeat (first | refine nx ?_ | (refine z10 fun K hK=>?_;simp only [go_sem,g1,gd,hnn,hl];apply hK;clear hK K))
   have m0:=z846 G (f i) (f (i + 1))
   refine z15 (fun (j:Nat)=>[(32,.d (.i (j:Int)))]) (fun j=>[(16,some (.arr 3 1 (intRows (mixL G (f i) (f (i + 1)) j))))]) (fun j=>j≤G) (fun j=>G - j) 0 ?_ (Nat.zero_le _) ?_
   ·rw [m0]
    simp only [go_sem]
    refine weA ?_ ?_ <;> simp
    all_goals first | done | rfl | trace_state
   ·intro j hj
    have hMl:=z265 G (f i) (f (i + 1)) j
    simp only [go_sem]
    repeat (first | refine nx ?_ | (refine z10 fun K hK=>?_;simp only [go_sem,hl];apply hK;clear hK K))
    refine z14 rfl (fun hb=>?_) (fun hb=>?_)
    ·have hltj:j<G:=by simpa using hb
     have hwj:IntKind.i64.wrap ((j:Int) + 1)=((j + 1:Nat):Int):=by rw [z17 (by omega)];simp
     have hnj:¬ ((j:Int)<0):=by omega
     have gN:=z33 (l:=N) (i:=j) (by omega)
     have gM:=z35 (z976 G (f i) (f (i + 1)) hltj)
     have r1:=hfr i j (by omega)
     have r2:=hq j
     have m1:0≤getI N (j:Int) * cnt i:=Int.mul_nonneg r2.1 hcr.1
     have m2:getI N (j:Int) * cnt i≤5000 * 100:=Int.mul_le_mul r2.2 hcr.2 hcr.1 (by decide)
     have e1:IntKind.i64.wrap (getI N (j:Int) * cnt i)=getI N (j:Int) * cnt i:=z17 (by omega)
     have e2:IntKind.i64.wrap (f i j + getI N (j:Int) * cnt i)=f (i + 1) j:=by rw [z17 (by omega),hfi j]
     have su:(intRows (mixL G (f i) (f (i + 1)) j)).set j [.i (f (i + 1) j)]=intRows (mixL G (f i) (f (i + 1)) (j + 1)):=by rw [z69,z924 _ _ _ hltj]
     obtain ⟨M,hM⟩:∃ M,M=mixL G (f i) (f (i + 1)) j:=⟨_,rfl⟩
     rw [← hM] at gM su hMl ⊢
     have hjM:j<M.length:=by omega
     repeat (first | refine nx ?_ | (refine z10 fun K hK=>?_;simp only [go_sem,gN];apply hK;clear hK K))
     refine z16 (by kernel_rfl) (by kernel_rfl) fun K hK=>?_
     simp only [go_sem,gM,hjM,hnj]
     refine ⟨_,.fn (hf:=hci) (hd:=z52 _ _ _ _ rfl) (hr:=.inl rfl),?_⟩
     simp only [go_sem,gM,hjM,hnj,e1,e2,su]
     refine ⟨by kernel_rfl,hK _ ?_⟩
     clear hK K
     repeat (first | refine nx ?_ | (refine z10 fun K hK=>?_;simp only [go_sem,hwj];apply hK;clear hK K))
     refine ⟨rfl,j + 1,?_,hltj,by omega⟩
     refine weA ?_ ?_ <;> simp
     all_goals first | done | rfl | trace_state
    ·have he:j=G:=by (have:¬ j<G:=by simpa using hb);omega
     subst he
     rw [z925]
     repeat (first | refine nx ?_ | (refine z10 fun K hK=>?_;simp only [go_sem,hw];apply hK;clear hK K))
     refine ⟨rfl,i + 1,?_,hlt,by omega⟩
     refine weA ?_ ?_ <;> simp
     all_goals first | done | rfl | trace_state
  ·have he:i=ds.length:=by (have:¬ i<ds.length:=by simpa using hb);omega
   subst he
   repeat (first | refine nx ?_ | (refine z10 fun K hK=>?_;simp only [go_sem];apply hK;clear hK K))
   simp only [go_sem]
end Go.Ab
namespace Go.Ab
open Go.RowKit Go.Proofs
set_option maxHeartbeats 16000000
set_option maxRecDepth 20000
attribute [local irreducible] WalkL Walk
def takeStep (k:Kitchen) (good:Nat) (a:List Int × Int) (i:Nat):List Int × Int :=
 if (batAt k i).good=(good:Int) then (a.1.set i (getI a.1 (i:Int) - min a.2 (getI a.1 (i:Int))),a.2 - min a.2 (getI a.1 (i:Int))) else a
def takeG (k:Kitchen) (o:List Nat) (good:Nat) (l:List Int) (need:Int):List Int × Int:=o.foldl (takeStep k good) (l,need)
def takeTo (k:Kitchen) (o:List Nat) (needs l:List Int):Nat→Option (List Int)
 | 0=>some l
 | g + 1=>match takeTo k o needs l g with
  | none=>none
  | some c=>if (takeG k o g c (getI needs (g:Int))).2 > 0 then none else some (takeG k o g c (getI needs (g:Int))).1
theorem z107 {k:Kitchen} {good:Nat} {a:List Int × Int} {i:Nat} (h:AmtOk a.1) (hn:0≤a.2):AmtOk (takeStep k good a i).1∧(takeStep k good a i).1.length=a.1.length∧0≤(takeStep k good a i).2∧(takeStep k good a i).2≤a.2:=by
 unfold takeStep
 have hg:=h.get (i:Int)
 split
 ·refine ⟨h.set i (by omega),by simp,?_,?_⟩ <;> dsimp only <;> omega
 ·exact ⟨h,rfl,hn,Int.le_refl _⟩
theorem z263 {k:Kitchen} {good:Nat}:∀ (o:List Nat) {a:List Int × Int},AmtOk a.1→0≤a.2→AmtOk (o.foldl (takeStep k good) a).1∧(o.foldl (takeStep k good) a).1.length=a.1.length∧0≤(o.foldl (takeStep k good) a).2∧(o.foldl (takeStep k good) a).2≤a.2
 | [],a,h,hn=>⟨h,rfl,hn,Int.le_refl _⟩
 | i::o,a,h,hn=>by
  obtain ⟨h1,h2,h3,h4⟩:=z107 (k:=k) (good:=good) (i:=i) h hn
  obtain ⟨k1,k2,k3,k4⟩:=z263 o h1 h3
  rw [List.foldl_cons]
  exact ⟨k1,by rw [k2,h2],k3,by omega⟩
theorem z124 {k:Kitchen} {o:List Nat} {needs l:List Int} (h:AmtOk l) (hn:∀ x ∈ needs,0≤x):∀ (g:Nat) (c:List Int),takeTo k o needs l g=some c→AmtOk c∧c.length=l.length
 | 0,c,hc=>by cases hc;exact ⟨h,rfl⟩
 | g + 1,c,hc=>by
  rw [takeTo] at hc
  cases hx:takeTo k o needs l g with
  | none=>rw [hx] at hc;cases hc
  | some d =>
   rw [hx] at hc
   dsimp only at hc
   split at hc
   ·cases hc
   ·cases hc
    obtain ⟨d1,d2⟩:=z124 h hn g d hx
    have hng:0≤getI needs (g:Int):=by
     unfold getI List.getD
     cases hy:needs[((g:Int)).toNat]? with
     | none=>simp
     | some y=>exact hn y (List.mem_of_getElem? hy)
    obtain ⟨k1,k2,_⟩:=z263 (k:=k) (good:=g) o (a:=(d,getI needs (g:Int))) d1 hng
    exact ⟨k1,by rw [takeG,k2,d2]⟩
theorem z591 {k:Kitchen} {o:List Nat} {needs l:List Int} {g:Nat} (h:takeTo k o needs l g=none):∀ {m:Nat},g≤m→takeTo k o needs l m=none:=by
 intro m hm
 induction hm with
 | refl=>exact h
 | step _ ih=>rw [takeTo,ih]
def takeBlks (k:Kitchen) (w:Int) (l:List Int) (o:List Nat):Option (List Int)→List Blk
 | none=>[.box (lardRow k (.own 1) (.own 2) w),.arr 3 1 (intRows l),.arr 3 1 (natRows o)]
 | some c=>[.box (lardRow k (.own 3) (.own 2) w),.arr 3 1 (intRows l),.arr 3 1 (natRows o),.arr 3 1 (intRows c)]
theorem z955 (k:Kitchen) (needs l:List Int) (o:List Nat) (w:Int) (hl:l.length=k.batches.length) (hbl:k.batches.length≤10) (ha:AmtOk l) (hn:∀ x ∈ needs,0≤x∧x≤2 ^ 40) (hnl:needs.length≤6) (ho:∀ x ∈ o,x<k.batches.length) (hol:o.length≤10) :
  FnG Try.prog 43 [.box (lardRow k (.own 1) (.own 2) w),.arr 3 1 (intRows l),.arr 3 1 (natRows o)] [0] [.box 0 0,.d (.sl (intRows needs))] (.d (.bool (takeTo k o needs l needs.length).isSome)) (takeBlks k w l o (takeTo k o needs l needs.length)):=by
 have h184:=z999 l (by omega)
 have hn0:∀ x ∈ needs,0≤x:=fun x hx=>(hn x hx).1
 have hto:=fun g c hc=>z124 (k:=k) (o:=o) ha hn0 g c hc
 cases hres:takeTo k o needs l needs.length with
 | none =>
  refine z62 68 Try.call43 Try.func43 rfl (by decide) [] [(0,0)] (by simp only [List.length_cons,List.length_nil];decide) (by kernel_rfl) fun J=>?_
  simp only [go_sem,St.startG,Try.ntmps43,Try.results43,List.map_cons,List.map_nil,List.range_succ,  lardRow]
  repeat (first | refine nx ?_ | (refine z10 fun K hK=>?_;simp only [go_sem];apply hK;clear hK K))
  refine z10 fun K hK=>?_
  simp only [go_sem]
  refine ⟨_,.lentS (hdst:=rfl) (hf:=h184) (hd:=rfl) (hr:=z39 _) (hfr:=rfl),?_⟩
  simp only [go_sem]
  apply hK
  clear hK K
  repeat (first | refine nx ?_ | (refine z10 fun K hK=>?_;simp only [go_sem];apply hK;clear hK K))
  refine z15 (fun (q:Nat × List Int)=>[(18,.d (.i (q.1:Int)))]) (fun q=>[(15,some (.arr 3 1 (intRows q.2)))]) (fun q=>q.1≤needs.length∧takeTo k o needs l q.1=some q.2) (fun q=>needs.length - q.1) (0,l) ?_ ⟨Nat.zero_le _,rfl⟩ ?_
  ·simp only [go_sem]
   refine weA ?_ ?_ <;> simp
   all_goals first | done | rfl | trace_state
  ·rintro ⟨g,cur⟩ ⟨hg,hcur⟩
   dsimp only at hg hcur
   obtain ⟨hco,hcl⟩:=hto g cur hcur
   simp only [go_sem]
   repeat (first | refine nx ?_ | (refine z10 fun K hK=>?_;simp only [go_sem];apply hK;clear hK K))
   refine z14 rfl (fun hb=>?_) (fun hb=>?_)
   ·have hlt:g<needs.length:=by simpa using hb
    have hw:IntKind.i64.wrap ((g:Int) + 1)=((g + 1:Nat):Int):=by rw [z17 (by omega)];simp
    have gn:=z33 hlt
    have hnx:takeTo k o needs l (g + 1)=if (takeG k o g cur (getI needs (g:Int))).2 > 0 then none else some (takeG k o g cur (getI needs (g:Int))).1:=by rw [takeTo,hcur]
    have hnr:0≤getI needs (g:Int)∧getI needs (g:Int)≤2 ^ 40:=z163 hn (by decide) _
    obtain ⟨N,hN⟩:∃ N,N=getI needs (g:Int):=⟨_,rfl⟩
    rw [← hN] at gn hnx hnr
    repeat (first | refine nx ?_ | (refine z10 fun K hK=>?_;simp only [go_sem,gn];apply hK;clear hK K))
    refine z15 (fun (q:Nat × List Int × Int)=>[(28,.d (.i (q.1:Int))),(7,.d (.i q.2.2))]) (fun q=>[(15,some (.arr 3 1 (intRows q.2.1)))]) (fun q=>q.1≤o.length∧(q.2.1,q.2.2)=(o.take q.1).foldl (takeStep k g) (cur,N)∧AmtOk q.2.1∧q.2.1.length=l.length∧0≤q.2.2∧q.2.2≤2 ^ 40) (fun q=>o.length - q.1) (0,cur,N) ?_ ⟨Nat.zero_le _,rfl,hco,hcl,hnr.1,hnr.2⟩ ?_
    ·simp only [go_sem]
     refine weA ?_ ?_ <;> simp
     all_goals first | done | rfl | trace_state
    ·rintro ⟨j,A,m⟩ ⟨hj,hfold,hAo,hAl,hm0,hm1⟩
     dsimp only at hj hfold hAo hAl hm0 hm1
     simp only [go_sem]
     repeat (first | refine nx ?_ | (refine z10 fun K hK=>?_;simp only [go_sem];apply hK;clear hK K))
     refine z14 rfl (fun hb=>?_) (fun hb=>?_)
     ·have hltj:j<o.length:=by simpa using hb
      have hwj:IntKind.i64.wrap ((j:Int) + 1)=((j + 1:Nat):Int):=by rw [z17 (by omega)];simp
      have hnj:¬ ((j:Int)<0):=by omega
      obtain ⟨x,hx⟩:∃ x,o[j]?=some x:=⟨_,List.getElem?_eq_getElem hltj⟩
      have gx:=z102 hltj
      rw [List.getD,hx,Option.getD_some] at gx
      have hxb:=ho x (List.mem_of_getElem? hx)
      have gb:=z261 hxb
      rw [Batch.row] at gb
      have hnx2:¬ ((x:Int)<0):=by omega
      have hxA:x<A.length:=by omega
      have gA:=z33 hxA
      have hgA:=hAo.get (x:Int)
      have hst:(o.take (j + 1)).foldl (takeStep k g) (cur,N)=takeStep k g (A,m) x:=by rw [z78 _ _ _ _ _ hx,← hfold]
      have hso:=z107 (k:=k) (good:=g) (i:=x) (a:=(A,m)) hAo hm0
      by_cases hq:(batAt k x).good=(g:Int)
      ·have d:((batAt k x).good == (g:Int))=true:=by simp [hq]
       have e0:takeStep k g (A,m) x=(A.set x (getI A (x:Int) - min m (getI A (x:Int))),m - min m (getI A (x:Int))):=by rw [takeStep,if_pos hq]
       rw [e0] at hst hso
       dsimp only at hso
       have e1:IntKind.i64.wrap (getI A (x:Int) - min m (getI A (x:Int)))=getI A (x:Int) - min m (getI A (x:Int)):=z17 (by omega)
       have e2:IntKind.i64.wrap (m - min m (getI A (x:Int)))=m - min m (getI A (x:Int)):=z17 (by omega)
       have su:=z69 A x (getI A (x:Int) - min m (getI A (x:Int)))
       obtain ⟨v,hv⟩:∃ v,v=getI A (x:Int):=⟨_,rfl⟩
       rw [← hv] at gA e1 e2 su hst hso hgA
       obtain ⟨t,ht⟩:∃ t,t=min m v:=⟨_,rfl⟩
       rw [← ht] at e1 e2 su hst hso
       have ht':min m v=t:=ht.symm
       repeat (first | refine z12 rfl ?_ | refine z11 rfl ?_ | refine nx ?_ | (refine z10 fun K hK=>?_;simp only [go_sem,gx,hnj,hltj,gb,hnx2,d];apply hK;clear hK K))
       repeat (first | refine nx ?_ | (refine z10 fun K hK=>?_;simp only [go_sem,gx,hnj,hltj,gb,hnx2,d,gA,hxA,ht',e1,e2,su,hwj];apply hK;clear hK K))
       refine ⟨rfl,(j + 1,A.set x (v - t),m - t),?_,⟨hltj,hst.symm,hso.1,by rw [hso.2.1];exact hAl,hso.2.2.1,by dsimp only;omega⟩,by dsimp only;omega⟩
       refine weA ?_ ?_ <;> simp
       all_goals first | done | rfl | trace_state
      ·have d:((batAt k x).good == (g:Int))=false:=by simpa using hq
       have e0:takeStep k g (A,m) x=(A,m):=by rw [takeStep,if_neg hq]
       rw [e0] at hst
       repeat (first | refine z12 rfl ?_ | refine z11 rfl ?_ | refine nx ?_ | (refine z10 fun K hK=>?_;simp only [go_sem,gx,hnj,hltj,gb,hnx2,d,hwj];apply hK;clear hK K))
       refine ⟨rfl,(j + 1,A,m),?_,⟨hltj,hst.symm,hAo,hAl,hm0,hm1⟩,by dsimp only;omega⟩
       refine weA ?_ ?_ <;> simp
       all_goals first | done | rfl | trace_state
     ·have he:j=o.length:=by (have:¬ j<o.length:=by simpa using hb);omega
      subst he
      rw [List.take_length] at hfold
      have hG:takeG k o g cur N=(A,m):=hfold.symm
      rw [hG] at hnx
      dsimp only at hnx
      repeat (first | refine nx ?_ | (refine z10 fun K hK=>?_;simp only [go_sem];apply hK;clear hK K))
      refine z14 rfl (fun hb=>?_) (fun hb=>?_)
      ·have hpos:m > 0:=by simpa using hb
       rw [if_pos hpos] at hnx
       repeat (first | refine nx ?_ | (refine z10 fun K hK=>?_;simp only [go_sem];apply hK;clear hK K))
       simp only [go_sem,retG,takeBlks,lardRow,Option.isSome_none]
      ·have hpos:¬ m > 0:=by simpa using hb
       rw [if_neg hpos] at hnx
       repeat (first | refine nx ?_ | (refine z10 fun K hK=>?_;simp only [go_sem,hw];apply hK;clear hK K))
       refine ⟨rfl,(g + 1,A),?_,⟨hlt,hnx⟩,by dsimp only;omega⟩
       refine weA ?_ ?_ <;> simp
       all_goals first | done | rfl | trace_state
   ·have he:g=needs.length:=by (have:¬ g<needs.length:=by simpa using hb);omega
    subst he
    rw [hres] at hcur
    cases hcur
 | some cf =>
  refine z62 68 Try.call43 Try.func43 rfl (by decide) [15] [(0,0)] (by simp only [List.length_cons,List.length_nil];decide) (by kernel_rfl) fun J=>?_
  simp only [go_sem,St.startG,Try.ntmps43,Try.results43,List.map_cons,List.map_nil,List.range_succ,  lardRow]
  repeat (first | refine nx ?_ | (refine z10 fun K hK=>?_;simp only [go_sem];apply hK;clear hK K))
  refine z10 fun K hK=>?_
  simp only [go_sem]
  refine ⟨_,.lentS (hdst:=rfl) (hf:=h184) (hd:=rfl) (hr:=z39 _) (hfr:=rfl),?_⟩
  simp only [go_sem]
  apply hK
  clear hK K
  repeat (first | refine nx ?_ | (refine z10 fun K hK=>?_;simp only [go_sem];apply hK;clear hK K))
  refine z15 (fun (q:Nat × List Int)=>[(18,.d (.i (q.1:Int)))]) (fun q=>[(15,some (.arr 3 1 (intRows q.2)))]) (fun q=>q.1≤needs.length∧takeTo k o needs l q.1=some q.2) (fun q=>needs.length - q.1) (0,l) ?_ ⟨Nat.zero_le _,rfl⟩ ?_
  ·simp only [go_sem]
   refine weA ?_ ?_ <;> simp
   all_goals first | done | rfl | trace_state
  ·rintro ⟨g,cur⟩ ⟨hg,hcur⟩
   dsimp only at hg hcur
   obtain ⟨hco,hcl⟩:=hto g cur hcur
   simp only [go_sem]
   repeat (first | refine nx ?_ | (refine z10 fun K hK=>?_;simp only [go_sem];apply hK;clear hK K))
   refine z14 rfl (fun hb=>?_) (fun hb=>?_)
   ·have hlt:g<needs.length:=by simpa using hb
    have hw:IntKind.i64.wrap ((g:Int) + 1)=((g + 1:Nat):Int):=by rw [z17 (by omega)];simp
    have gn:=z33 hlt
    have hnx:takeTo k o needs l (g + 1)=if (takeG k o g cur (getI needs (g:Int))).2 > 0 then none else some (takeG k o g cur (getI needs (g:Int))).1:=by rw [takeTo,hcur]
    have hnr:0≤getI needs (g:Int)∧getI needs (g:Int)≤2 ^ 40:=z163 hn (by decide) _
    obtain ⟨N,hN⟩:∃ N,N=getI needs (g:Int):=⟨_,rfl⟩
    rw [← hN] at gn hnx hnr
    repeat (first | refine nx ?_ | (refine z10 fun K hK=>?_;simp only [go_sem,gn];apply hK;clear hK K))
    refine z15 (fun (q:Nat × List Int × Int)=>[(28,.d (.i (q.1:Int))),(7,.d (.i q.2.2))]) (fun q=>[(15,some (.arr 3 1 (intRows q.2.1)))]) (fun q=>q.1≤o.length∧(q.2.1,q.2.2)=(o.take q.1).foldl (takeStep k g) (cur,N)∧AmtOk q.2.1∧q.2.1.length=l.length∧0≤q.2.2∧q.2.2≤2 ^ 40) (fun q=>o.length - q.1) (0,cur,N) ?_ ⟨Nat.zero_le _,rfl,hco,hcl,hnr.1,hnr.2⟩ ?_
    ·simp only [go_sem]
     refine weA ?_ ?_ <;> simp
     all_goals first | done | rfl | trace_state
    ·rintro ⟨j,A,m⟩ ⟨hj,hfold,hAo,hAl,hm0,hm1⟩
     dsimp only at hj hfold hAo hAl hm0 hm1
     simp only [go_sem]
     repeat (first | refine nx ?_ | (refine z10 fun K hK=>?_;simp only [go_sem];apply hK;clear hK K))
     refine z14 rfl (fun hb=>?_) (fun hb=>?_)
     ·have hltj:j<o.length:=by simpa using hb
      have hwj:IntKind.i64.wrap ((j:Int) + 1)=((j + 1:Nat):Int):=by rw [z17 (by omega)];simp
      have hnj:¬ ((j:Int)<0):=by omega
      obtain ⟨x,hx⟩:∃ x,o[j]?=some x:=⟨_,List.getElem?_eq_getElem hltj⟩
      have gx:=z102 hltj
      rw [List.getD,hx,Option.getD_some] at gx
      have hxb:=ho x (List.mem_of_getElem? hx)
      have gb:=z261 hxb
      rw [Batch.row] at gb
      have hnx2:¬ ((x:Int)<0):=by omega
      have hxA:x<A.length:=by omega
      have gA:=z33 hxA
      have hgA:=hAo.get (x:Int)
      have hst:(o.take (j + 1)).foldl (takeStep k g) (cur,N)=takeStep k g (A,m) x:=by rw [z78 _ _ _ _ _ hx,← hfold]
      have hso:=z107 (k:=k) (good:=g) (i:=x) (a:=(A,m)) hAo hm0
      by_cases hq:(batAt k x).good=(g:Int)
      ·have d:((batAt k x).good == (g:Int))=true:=by simp [hq]
       have e0:takeStep k g (A,m) x=(A.set x (getI A (x:Int) - min m (getI A (x:Int))),m - min m (getI A (x:Int))):=by rw [takeStep,if_pos hq]
       rw [e0] at hst hso
       dsimp only at hso
       have e1:IntKind.i64.wrap (getI A (x:Int) - min m (getI A (x:Int)))=getI A (x:Int) - min m (getI A (x:Int)):=z17 (by omega)
       have e2:IntKind.i64.wrap (m - min m (getI A (x:Int)))=m - min m (getI A (x:Int)):=z17 (by omega)
       have su:=z69 A x (getI A (x:Int) - min m (getI A (x:Int)))
       obtain ⟨v,hv⟩:∃ v,v=getI A (x:Int):=⟨_,rfl⟩
       rw [← hv] at gA e1 e2 su hst hso hgA
       obtain ⟨t,ht⟩:∃ t,t=min m v:=⟨_,rfl⟩
       rw [← ht] at e1 e2 su hst hso
       have ht':min m v=t:=ht.symm
       repeat (first | refine z12 rfl ?_ | refine z11 rfl ?_ | refine nx ?_ | (refine z10 fun K hK=>?_;simp only [go_sem,gx,hnj,hltj,gb,hnx2,d];apply hK;clear hK K))
       repeat (first | refine nx ?_ | (refine z10 fun K hK=>?_;simp only [go_sem,gx,hnj,hltj,gb,hnx2,d,gA,hxA,ht',e1,e2,su,hwj];apply hK;clear hK K))
       refine ⟨rfl,(j + 1,A.set x (v - t),m - t),?_,⟨hltj,hst.symm,hso.1,by rw [hso.2.1];exact hAl,hso.2.2.1,by dsimp only;omega⟩,by dsimp only;omega⟩
       refine weA ?_ ?_ <;> simp
       all_goals first | done | rfl | trace_state
      ·have d:((batAt k x).good == (g:Int))=false:=by simpa using hq
       have e0:takeStep k g (A,m) x=(A,m):=by rw [takeStep,if_neg hq]
       rw [e0] at hst
       repeat (first | refine z12 rfl ?_ | refine z11 rfl ?_ | refine nx ?_ | (refine z10 fun K hK=>?_;simp only [go_sem,gx,hnj,hltj,gb,hnx2,d,hwj];apply hK;clear hK K))
       refine ⟨rfl,(j + 1,A,m),?_,⟨hltj,hst.symm,hAo,hAl,hm0,hm1⟩,by dsimp only;omega⟩
       refine weA ?_ ?_ <;> simp
       all_goals first | done | rfl | trace_state
     ·have he:j=o.length:=by (have:¬ j<o.length:=by simpa using hb);omega
      subst he
      rw [List.take_length] at hfold
      have hG:takeG k o g cur N=(A,m):=hfold.symm
      rw [hG] at hnx
      dsimp only at hnx
      repeat (first | refine nx ?_ | (refine z10 fun K hK=>?_;simp only [go_sem];apply hK;clear hK K))
      refine z14 rfl (fun hb=>?_) (fun hb=>?_)
      ·have hpos:m > 0:=by simpa using hb
       rw [if_pos hpos] at hnx
       rw [z591 hnx (by omega:g + 1≤needs.length)] at hres
       cases hres
      ·have hpos:¬ m > 0:=by simpa using hb
       rw [if_neg hpos] at hnx
       repeat (first | refine nx ?_ | (refine z10 fun K hK=>?_;simp only [go_sem,hw];apply hK;clear hK K))
       refine ⟨rfl,(g + 1,A),?_,⟨hlt,hnx⟩,by dsimp only;omega⟩
       refine weA ?_ ?_ <;> simp
       all_goals first | done | rfl | trace_state
   ·have he:g=needs.length:=by (have:¬ g<needs.length:=by simpa using hb);omega
    subst he
    rw [hres] at hcur
    cases hcur
    repeat (first | refine nx ?_ | (refine z10 fun K hK=>?_;simp only [go_sem];apply hK;clear hK K))
    simp only [go_sem,retG,takeBlks,lardRow,Option.isSome_some]
end Go.Ab
namespace Go.Ab
open Go.RowKit Go.Proofs
set_option maxHeartbeats 16000000
set_option maxRecDepth 20000
attribute [local irreducible] WalkL Walk
theorem z197 {q:Int→Diners→Bool}:∀ {l:List Int} {d:List Diners},rowOk q l d=true→∀ {g:Nat} {n:Int},l[g]?=some n→∃ x,d[g]?=some x∧q n x=true
 | [],[],_,g,n,h=>by simp at h
 | m::l,x::d,hr,g,n,h=>by
  rw [rowOk,Bool.and_eq_true] at hr
  cases g with
  | zero=>simp at h;subst h;exact ⟨x,rfl,hr.1⟩
  | succ g=>simpa using z197 hr.2 (by simpa using h)
 | [],_::_,h,_,_,_=>by cases h
 | _::_,[],h,_,_,_=>by cases h
theorem z108 {q:Int→Diners→Bool}:∀ {l:List (List Int)} {d:List (List Diners)},shapedB q l d=true→∀ {i:Nat} {r:List Int},l[i]?=some r→∃ x,d[i]?=some x∧rowOk q r x=true
 | [],[],_,i,r,h=>by simp at h
 | m::l,x::d,hr,i,r,h=>by
  rw [shapedB,Bool.and_eq_true] at hr
  cases i with
  | zero=>simp at h;subst h;exact ⟨x,rfl,hr.1⟩
  | succ i=>simpa using z108 hr.2 (by simpa using h)
 | [],_::_,h,_,_,_=>by cases h
 | _::_,[],h,_,_,_=>by cases h
structure CntOk (k:Kitchen) (cnt:Nat→Nat→Int):Prop where
 rng:∀ d g,d<k.days.length→g<(k.days.getD d []).length→0≤cnt d g∧cnt d g≤100
theorem z148 {k:Kitchen} (hg:KitGood k) {M:List (List Int)} (hM:shapedB (menuB k) M k.days=true) {cnt:Nat→Nat→Int} (hc:CntOk k cnt) {d:Nat} {r:List Int} (hr:M[d]?=some r) :
  d<k.days.length∧r.length=(k.days.getD d []).length∧DayOk k r (cnt d):=by
 obtain ⟨x,hx,ho⟩:=z108 hM hr
 have hd:=(List.getElem?_eq_some_iff.1 hx).1
 have e:k.days.getD d []=x:=by rw [List.getD,hx];rfl
 have hl:=z66 ho
 have h3:=(hg.groups x (List.mem_of_getElem? hx)).1
 refine ⟨hd,by rw [e,hl],⟨by omega,fun g hgl=>?_,fun g hgl=>hc.rng d g hd (by rw [e];omega)⟩⟩
 obtain ⟨n,hn⟩:∃ n,r[g]?=some n:=⟨_,List.getElem?_eq_getElem hgl⟩
 obtain ⟨y,_,hq⟩:=z197 ho hn
 rw [menuB,Bool.and_eq_true] at hq
 have hw:=z37.1 hq.1
 exact ⟨n.toNat,by rw [hn,Int.toNat_of_nonneg hw.1],by omega⟩
theorem z861 {k:Kitchen} (hg:KitGood k):CntOk k fun d g=>(dinAt k d g).count.hi:=⟨fun d g hd hgl=>by
 obtain ⟨x,hx⟩:∃ x,k.days[d]?=some x:=⟨_,List.getElem?_eq_getElem hd⟩
 have e:k.days.getD d []=x:=by rw [List.getD,hx];rfl
 rw [e] at hgl
 obtain ⟨y,hy⟩:∃ y,x[g]?=some y:=⟨_,List.getElem?_eq_getElem hgl⟩
 have e2:dinAt k d g=y:=by rw [dinAt,e,List.getD,hy];rfl
 have:=((hg.groups x (List.mem_of_getElem? hx)).2 y (List.mem_of_getElem? hy)).2
 rw [e2]
 omega⟩
theorem z980 {k:Kitchen} (hg:KitGood k):CntOk k fun d g=>(dinAt k d g).count.lo:=⟨fun d g hd hgl=>by
 obtain ⟨x,hx⟩:∃ x,k.days[d]?=some x:=⟨_,List.getElem?_eq_getElem hd⟩
 have e:k.days.getD d []=x:=by rw [List.getD,hx];rfl
 rw [e] at hgl
 obtain ⟨y,hy⟩:∃ y,x[g]?=some y:=⟨_,List.getElem?_eq_getElem hgl⟩
 have e2:dinAt k d g=y:=by rw [dinAt,e,List.getD,hy];rfl
 have:=((hg.groups x (List.mem_of_getElem? hx)).2 y (List.mem_of_getElem? hy)).2
 rw [e2]
 omega⟩
def clrD (k:Kitchen) (d:Nat) (a:List Int × Int):List Int × Int:=clrTo k (d:Int) a.1 a.2 k.batches.length
def needD (k:Kitchen) (M:List (List Int)) (cnt:Nat→Nat→Int) (d:Nat):List Int:=needL k (M.getD d []) (cnt d)
def runSt (k:Kitchen) (M:List (List Int)) (cnt:Nat→Nat→Int):Nat→Option (List Int × Int)
 | 0=>some (amtK k,0)
 | d + 1=>match runSt k M cnt d with
  | none=>none
  | some a=>(takeTo k (ordK k) (needD k M cnt d) (clrD k d a).1 k.allerg.length).map fun l=>(l,(clrD k d a).2)
def lastD (k:Kitchen) (M:List (List Int)) (cnt:Nat→Nat→Int):Nat→Nat
 | 0=>0
 | d + 1=>if (runSt k M cnt (d + 1)).isSome then d + 1 else lastD k M cnt d
theorem z226 {k:Kitchen} {M:List (List Int)} {cnt:Nat→Nat→Int} {d:Nat} (h:runSt k M cnt d=none):∀ {m:Nat},d≤m→runSt k M cnt m=none:=by
 intro m hm
 induction hm with
 | refl=>exact h
 | step _ ih=>rw [runSt,ih]
theorem z203 {k:Kitchen} {M:List (List Int)} {cnt:Nat→Nat→Int} {d:Nat} (h:(runSt k M cnt d).isSome=true):lastD k M cnt d=d:=by
 cases d with
 | zero=>rfl
 | succ d=>rw [lastD,if_pos h]
theorem z372 {k:Kitchen} {M:List (List Int)} {cnt:Nat→Nat→Int} {d:Nat} (h:(runSt k M cnt d).isSome=true) (hn:runSt k M cnt (d + 1)=none):∀ {m:Nat},d≤m→lastD k M cnt m=d:=by
 intro m hm
 induction hm with
 | refl=>exact z203 h
 | @step m hm ih =>
  rw [lastD,z226 hn (Nat.succ_le_succ hm)]
  exact ih
theorem z43 (k:Kitchen) (ds:List Int) (cnt:Nat→Int):(needL k ds cnt).length=k.allerg.length:=by simp [needL]
theorem z53 {k:Kitchen} (hg:KitGood k) {ds:List Int} {cnt:Nat→Int} (hd:DayOk k ds cnt):∀ x ∈ needL k ds cnt,0≤x∧x≤2 ^ 40:=fun x hx=>by
 obtain ⟨g,_,rfl⟩:=List.mem_map.1 hx
 have:=z232 hg hd g ds.length (Nat.le_refl _)
 have:=hd.len
 omega
theorem z321 {k:Kitchen} (hg:KitGood k):AmtOk (amtK k):=fun x hx=>by
 obtain ⟨b,hb,rfl⟩:=List.mem_map.1 hx
 exact (hg.batch b hb).2.1
theorem z264 {k:Kitchen} (hg:KitGood k) {M:List (List Int)} (hM:shapedB (menuB k) M k.days=true) {cnt:Nat→Nat→Int} (hc:CntOk k cnt):∀ (d:Nat) a,d≤M.length→runSt k M cnt d=some a→AmtOk a.1∧a.1.length=k.batches.length∧0≤a.2∧a.2≤10000000 * d
 | 0,a,_,h=>by
  cases h
  exact ⟨z321 hg,by simp [amtK],Int.le_refl 0,by simp⟩
 | d + 1,a,hd,h=>by
  rw [runSt] at h
  cases hx:runSt k M cnt d with
  | none=>rw [hx] at h;cases h
  | some b =>
   rw [hx] at h
   dsimp only at h
   obtain ⟨h1,h2,h3,h4⟩:=z264 hg hM hc d b (by omega) hx
   obtain ⟨l,hl,rfl⟩:=Option.map_eq_some_iff.1 h
   obtain ⟨r,hr⟩:∃ r,M[d]?=some r:=⟨_,List.getElem?_eq_getElem (by omega)⟩
   obtain ⟨_,_,hdo⟩:=z148 hg hM hc hr
   have hnd:needD k M cnt d=needL k r (cnt d):=by rw [needD,List.getD,hr];rfl
   obtain ⟨c1,c2,c3⟩:=z51 (k:=k) (day:=(d:Int)) (w:=b.2) h1 k.batches.length
   obtain ⟨t1,t2⟩:=z124 (k:=k) (o:=ordK k) (needs:=needD k M cnt d) c1 (fun x hx=>by rw [hnd] at hx;exact (z53 hg hdo x hx).1) k.allerg.length l hl
   have hb:=hg.batches
   refine ⟨t1,by rw [t2,z45,h2],?_,?_⟩
   ·change 0≤(clrTo k (d:Int) b.1 b.2 k.batches.length).2
    omega
   ·change (clrTo k (d:Int) b.1 b.2 k.batches.length).2≤_
    push_cast
    omega
theorem z1029 (k:Kitchen) (f:FuncId) (d g:Nat) (c:Int) (h:Fn Try.prog f [.agg k.cells,.i (d:Int),.i (g:Int)] (.i c)):Fn Try.prog 84 [.i (g:Int),.ptr [.bnd f [.agg k.cells]] 0,.ptr [.i (d:Int)] 0] (.i c):=by
 rw [Kitchen.cells] at h ⊢
 refine z18 9 Try.call84 Try.func84 rfl (by decide) fun J=>?_
 simp only [go_sem,St.start,Try.ntmps84,Try.results84]
 repeat (first | refine nx ?_ | (refine z10 fun K hK=>?_;simp only [go_sem];(repeat (first | (refine ⟨_,.lent (hf:=h) (hd:=rfl) (hr:=rfl),?_⟩;simp only [go_sem]) | (refine ⟨_,.given (hf:=h) (hd:=rfl) (ha:=rfl),?_⟩;simp only [go_sem])));apply hK;clear hK K))
 simp only [go_sem]
end Go.Ab
namespace Go.Ab
open Go.RowKit Go.Proofs
set_option maxHeartbeats 16000000
set_option maxRecDepth 20000
attribute [local irreducible] WalkL Walk
def rowBlks (M:List (List Int)):List Blk:=(M.map intRows).map fun r=>Blk.arr 3 1 r
theorem z794 {s:St} {gs:List Nat} {e z:Nat} {rs:List (List (List DV))} {L k:Nat} (hk:rs.length=k) (h:∀ j r,rs[j]?=some r→s.m[j + L]?=some (some (.arr e z r))):blksG s gs (rowN L k) (rs.map fun r=>Blk.arr e z r):=by
 subst hk
 exact z574 h
theorem z1038 (M:List (List Int)) (hM:M.length<2 ^ 30) (hMr:∀ r ∈ M,r.length<2 ^ 30):FnG Try.prog 18 [] [] (List.map AV.d [.sl (listRows M)]) (.own 0) (.arrA 22 1 (nm 1 M.length)::rowBlks M):=by
 refine z62 21 Try.call18 Try.func18 rfl (by decide) (19::rowN 21 M.length) [] (by
  have h1:=z365 21 M.length
  refine List.nodup_cons.2 ⟨fun h=>?_,h1⟩
  have:=z432.1 h
  omega) (by kernel_rfl) fun J=>?_
 simp only [go_sem,St.startG,Try.ntmps18,Try.results18,List.map_cons,List.map_nil,List.range_succ]
 repeat (first | refine nx ?_ | (refine z10 fun K hK=>?_;simp only [go_sem];apply hK;clear hK K))
 refine z216 [] [(3,.own 19)] [(19,some (.arr 22 1 []))] ?_ ?_
 ·simp only [go_sem]
  refine z63 [19] ?_ ?_ rfl rfl <;> simp [lessT,lessM,lessB,AV.less]
 simp only [go_sem]
 refine z805 19 ?_
 simp only [go_sem]
 refine z179 21 (fun (i:Nat)=>[(4,.d (.i (i:Int))),(3,.own 19)]) (fun i=>[(19,some (.arrA 22 1 (nm 21 i)))]) (fun i=>arrs 3 1 ((M.take i).map intRows)) (fun i=>i≤M.length) (fun i=>M.length - i) 0 ?_ (Nat.zero_le _) ?_
 ·simp only [go_sem,z975,List.take_zero,List.map_nil,z954]
  refine weA ?_ ?_ <;> simp
 ·intro i hi
  simp only [go_sem]
  repeat (first | refine nx ?_ | (refine z10 fun K hK=>?_;simp only [go_sem,z25];apply hK;clear hK K))
  refine z14 rfl (fun hb=>?_) (fun hb=>?_)
  ·have hlt:i<M.length:=by simpa using hb
   have hw:IntKind.i64.wrap ((i:Int) + 1)=((i + 1:Nat):Int):=by rw [z17 (by omega)];simp
   obtain ⟨x,hx⟩:∃ x,M[i]?=some x:=⟨_,List.getElem?_eq_getElem hlt⟩
   have g1:=z32 hx
   have hni:¬ ((i:Int)<0):=by omega
   have hxn:=hMr x (List.mem_of_getElem? hx)
   have e3:x.length≤549755813888:=by omega
   have hh2:headIs 1 (intRows x)=true:=by cases x <;> rfl
   have hlt2:i + 1≤549755813888:=by omega
   have hs12:=fun f=>z843 (n:=12) (L:=21) (by decide) i f
   have hs19:=fun f=>z843 (n:=19) (L:=21) (by decide) i f
   have hk19:=z935 (n:=19) (L:=21) (by decide) i
   have hmv:(nm 21 i++[[AV.own 12]]).map (fun r=>r.map (AV.mapN (mv 12 (i + 21))))=nm 21 (i + 1):=by
    rw [List.map_append,z1044 (by decide),← z842]
    rfl
   have htk:arrs 3 1 ((M.take i).map intRows)++[some (.arr 3 1 (intRows x))]=arrs 3 1 ((M.take (i + 1)).map intRows):=by rw [z882,List.take_add_one,hx];simp
   repeat refine nx ?_
   refine z387 [7,0] fun K hK=>?_
   simp only [go_sem,runX,List.take_succ_cons,List.take_zero,List.drop_succ_cons,List.drop_zero,g1,hni,e3,hh2,hlt2,hlt,z25,z13,hs12,hs19,hk19,z289,z282,List.nil_append,List.length_nil,List.length_cons,Nat.zero_add]
   apply hK
   clear hK K
   repeat refine nx ?_
   refine z586 12 (i + 21) ?_ _ rfl ?_
   ·simp only [go_sem,z97,List.length_map,List.length_take,Nat.min_eq_left hi]
   simp only [go_sem,hmv,z883,htk,z842]
   repeat (first | refine nx ?_ | (refine z10 fun K hK=>?_;simp only [go_sem,hw];apply hK;clear hK K))
   refine ⟨rfl,i + 1,?_,hlt,by omega⟩
   refine z63 [] ?_ ?_ rfl ?_
   ·simp [lessT,AV.less]
   ·simp [lessT,lessM,lessB,AV.less,z72]
   ·simp only [liveM,z54,Bool.and_true]
    exact z159 (by simp [z97];omega) (z120 3 1 _)
  ·have he:i=M.length:=by (have:¬ i<M.length:=by simpa using hb);omega
   subst he
   rw [List.take_length]
   repeat (first | refine nx ?_ | (refine z10 fun K hK=>?_;simp only [go_sem];apply hK;clear hK K))
   simp only [go_sem,retG,namesG,List.range_zero,List.map_nil,List.nil_append,inv]
   refine ⟨congrArg (Blk.arrA 22 1) (z665 (h:=inv (19::rowN 21 M.length)) fun j hj=>z938 (by decide) hj).symm,?_⟩
   exact z794 (by simp) fun j r hj=>by
    simp only [List.getElem?_cons_succ]
    exact z459 hj
end Go.Ab
namespace Go.Ab
open Go.RowKit Go.Proofs
set_option maxHeartbeats 16000000
set_option maxRecDepth 20000
attribute [local irreducible] WalkL Walk
def endSt (k:Kitchen) (M:List (List Int)) (cnt:Nat→Nat→Int):List Int × Int :=
 let a:=(runSt k M cnt (lastD k M cnt M.length)).getD (amtK k,0)
 if lastD k M cnt M.length<M.length then clrD k (lastD k M cnt M.length) a else a
def leftAt (i:Nat) (a:List Int):AV:=if i=0 then .own 1 else .d (.sl (intRows a))
def left0 (k:Kitchen):List Int:=(clrD k 0 (amtK k,0)).1
def runBlks (k:Kitchen) (M:List (List Int)) (cnt:Nat→Nat→Int):List Blk :=
 [.box (lardRow k (leftAt (lastD k M cnt M.length) (endSt k M cnt).1) (.own 2) (endSt k M cnt).2),.arr 3 1 (intRows (left0 k)),.arr 3 1 (natRows (ordK k))]
def nmL (p:Nat):Nat:=if p=0 then 34 else p
theorem z234 {i:Nat} (h:i=0) (a:List Int):leftAt i a=.own 1:=by rw [leftAt,if_pos h]
theorem z112 {i:Nat} (h:i≠0) (a:List Int):leftAt i a=.d (.sl (intRows a)):=by rw [leftAt,if_neg h]
theorem z1054 (k:Kitchen) (hg:KitGood k) (M:List (List Int)) (hM:shapedB (menuB k) M k.days=true) (f:FuncId) (cnt:Nat→Nat→Int) (hc:CntOk k cnt)
  (hf:∀ d g,d<k.days.length→g<(k.days.getD d []).length→Fn Try.prog f [.agg k.cells,.i (d:Int),.i (g:Int)] (.i (cnt d g))) :
  FnG Try.prog 55 [.box (lardRow k (.own 1) (.own 2) 0),.arr 3 1 (intRows (amtK k)),.arr 3 1 (natRows (ordK k))] [0] [.box 0 0,.d (.sl (listRows M)),.d (.bnd f [.agg k.cells])] (.d (.i (lastD k M cnt M.length:Nat))) (runBlks k M cnt):=by
 have hbl:=hg.batches
 have hdl:=hg.days
 have hMl:=z38 hM
 have hgo:=hg.goods
 obtain ⟨A0,hA0⟩:∃ a,a=left0 k:=⟨_,rfl⟩
 refine z62 33 Try.call55 Try.func55 rfl (by decide) [] [(0,0)] (by simp only [List.length_cons,List.length_nil];decide) (by kernel_rfl) fun J=>?_
 simp only [go_sem,St.startG,Try.ntmps55,Try.results55,List.map_cons,List.map_nil,List.range_succ,  lardRow]
 repeat refine nx ?_
 refine z10 fun K hK=>?_
 simp only [go_sem]
 apply hK
 clear hK K
 refine z20 [5] ?_
 simp only [go_sem]
 repeat (first | refine nx ?_ | (refine z10 fun K hK=>?_;simp only [go_sem,z25];apply hK;clear hK K))
 refine z15 (fun (q:Nat × Nat × List Int × Int)=>[(11,.d (.i (q.1:Int)))])
  (fun q=>[(33,some (.box (lardRow k (.own (nmL q.2.1)) (.own 35) q.2.2.2))),(34,some (.arr 3 1 (intRows (if q.2.1=0 then q.2.2.1 else A0)))),(1,if q.2.1=1 then some (.arr 3 1 (intRows q.2.2.1)) else none),(2,if q.2.1=2 then some (.arr 3 1 (intRows q.2.2.1)) else none)])
  (fun q=>q.1≤M.length∧runSt k M cnt q.1=some q.2.2∧(q.2.1=0→q.1=0∧q.2.2.1=amtK k)∧(q.1=0→q.2.1=0)∧q.2.1<3) (fun q=>M.length - q.1) (0,0,amtK k,0) ?_ ⟨Nat.zero_le _,rfl,fun _=>⟨rfl,rfl⟩,fun _=>rfl,Nat.zero_lt_succ _⟩ ?_
 ·simp only [go_sem,nmL,lardRow]
  refine weA ?_ ?_ <;> simp
  all_goals first | done | rfl | exact ⟨rfl,rfl⟩ | trace_state
 ·rintro ⟨d,p,l,w⟩ ⟨hd,hrun,hp0,hd0,hp3⟩
  dsimp only at hd hrun hp0 hd0 hp3
  obtain ⟨hla,hll,hw0,hw1⟩:=z264 hg hM hc d (l,w) hd hrun
  dsimp only at hla hll hw0 hw1
  have hw2:w≤2 ^ 40:=by omega
  have hsome:(runSt k M cnt d).isSome=true:=by rw [hrun];rfl
  have hlast:d=M.length→lastD k M cnt M.length=d∧endSt k M cnt=(l,w):=fun he=>by
   have e:lastD k M cnt M.length=d:=by rw [← he];exact z203 hsome
   refine ⟨e,?_⟩
   rw [endSt,e,hrun,if_neg (by omega)]
   rfl
  have hstop:d<M.length→runSt k M cnt (d + 1)=none→lastD k M cnt M.length=d∧endSt k M cnt=clrD k d (l,w):=fun hlt hn=>by
   have e:lastD k M cnt M.length=d:=z372 hsome hn (by omega)
   refine ⟨e,?_⟩
   rw [endSt,e,hrun,if_pos hlt]
   rfl
  have hstep:d<M.length→runSt k M cnt (d + 1)=(takeTo k (ordK k) (needD k M cnt d) (clrD k d (l,w)).1 k.allerg.length).map fun c=>(c,(clrD k d (l,w)).2):=fun _=>by rw [runSt,hrun]
  rcases (by omega:p=0∨p=1∨p=2) with hp | hp | hp
  ·-- phase 0
   subst hp
   obtain ⟨hz0,hl1⟩:=hp0 rfl
   have hLA:=z234 hz0
   simp only [go_sem,nmL,lardRow]
   repeat (first | refine nx ?_ | (refine z10 fun K hK=>?_;simp only [go_sem];apply hK;clear hK K))
   refine z14 rfl (fun hb=>?_) (fun hb=>?_)
   ·have hlt:d<M.length:=by simpa using hb
    have hw:IntKind.i64.wrap ((d:Int) + 1)=((d + 1:Nat):Int):=by rw [z17 (by omega)];simp
    obtain ⟨r,hr⟩:∃ r,M[d]?=some r:=⟨_,List.getElem?_eq_getElem hlt⟩
    obtain ⟨hdd,hrl,hday⟩:=z148 hg hM hc hr
    have g1:=z32 hr
    have hni:¬ ((d:Int)<0):=by omega
    have hnd:needD k M cnt d=needL k r (cnt d):=by rw [needD,List.getD,hr];rfl
    have hst:=hstep hlt
    have hsp:=hstop hlt
    rw [hnd] at hst
    have h86:=z888 k hbl (d:Int) l (ordK k) w hll hla ⟨hw0,hw2⟩
    obtain ⟨c1,c2,c3⟩:=z51 (k:=k) (day:=(d:Int)) (w:=w) hla k.batches.length
    have c4:=z45 k (d:Int) l w k.batches.length
    change runSt k M cnt (d + 1)=(takeTo k (ordK k) (needL k r (cnt d)) (clrTo k (d:Int) l w k.batches.length).1 k.allerg.length).map fun c=>(c,(clrTo k (d:Int) l w k.batches.length).2) at hst
    change runSt k M cnt (d + 1)=none→lastD k M cnt M.length=d∧endSt k M cnt=clrTo k (d:Int) l w k.batches.length at hsp
    obtain ⟨⟨C,v⟩,hC⟩:∃ a,a=clrTo k (d:Int) l w k.batches.length:=⟨_,rfl⟩
    rw [← hC] at h86 c1 c2 c3 c4 hst hsp
    dsimp only at c1 c2 c3 c4 hst
    have hAC:C=A0:=by
     have h0:(l,w)=(amtK k,0):=by rw [hz0] at hrun;exact (Option.some.inj hrun).symm
     rw [hA0,left0,clrD,← h0]
     rw [hz0] at hC
     exact congrArg Prod.fst hC
    subst hAC
    have h87:=(z887 k hg r (cnt d) 84 [.ptr [.bnd f [.agg k.cells]] 0,.ptr [.i (d:Int)] 0] hday (fun j hj=>z1029 k f d j (cnt d j) (hf d j hdd (by omega)))).deep
    have h141:=z955 k (needL k r (cnt d)) C (ordK k) v (by omega) hbl c1 (z53 hg hday) (by rw [z43];exact hgo.2) (fun x hx=>z68 hx) (by rw [z95];exact hbl)
    rw [z43] at h141
    simp only [lardRow] at h86
    rw [Kitchen.cells] at h87
    obtain ⟨N,hN⟩:∃ N,N=needL k r (cnt d):=⟨_,rfl⟩
    rw [← hN] at h87 h141 hst
    repeat refine nx ?_
    refine z10 fun K hK=>?_
    simp only [go_sem,g1,hni]
    apply hK
    clear hK K
    refine z20 [7] ?_
    simp only [go_sem]
    repeat refine nx ?_
    refine z10 fun K hK=>?_
    simp only [go_sem]
    refine ⟨_,.own (ns:=[33,34,35]) (news:=[]) (bads:=[34,35]) (rd:=[]) (hf:=h86) (hnd:=by decide) (hl0:=rfl) (hl1:=rfl) (hm:=by repeat (first | exact trivial | refine And.intro ?_ ?_ | rfl)) (hnew:=rfl) (hla:=rfl) (ha:=z24 (by repeat (first | exact trivial | refine And.intro ?_ ?_ | exact z27 rfl | exact z21 rfl rfl))) (hrd:=rfl) (hsh:=z22 _) (hb:=rfl) (hfl:=.inl rfl),?_⟩
    simp only [go_sem,List.map_cons,List.map_nil]
    apply hK
    clear hK K
    cases htk:takeTo k (ordK k) N C k.allerg.length with
    | none =>
     rw [htk] at h141 hst
     obtain ⟨hD,hE⟩:=hsp hst
     simp only [takeBlks,lardRow,Option.isSome_none] at h141
     repeat refine nx ?_
     refine z10 fun K hK=>?_
     simp only [go_sem]
     refine ⟨_,.given (hf:=h87) (hd:=rfl) (ha:=rfl),?_⟩
     simp only [go_sem]
     refine ⟨_,.own (ns:=[33,34,35]) (news:=[]) (bads:=[34,35]) (rd:=[]) (hf:=h141) (hnd:=by decide) (hl0:=rfl) (hl1:=rfl) (hm:=by repeat (first | exact trivial | refine And.intro ?_ ?_ | rfl)) (hnew:=rfl) (hla:=rfl) (ha:=z24 (by repeat (first | exact trivial | refine And.intro ?_ ?_ | exact z27 rfl | exact z21 rfl rfl))) (hrd:=rfl) (hsh:=z22 _) (hb:=rfl) (hfl:=.inl rfl),?_⟩
     simp only [go_sem,List.map_cons,List.map_nil]
     apply hK
     clear hK K
     repeat (first | refine nx ?_ | (refine z10 fun K hK=>?_;simp only [go_sem];apply hK;clear hK K))
     repeat (first | refine z12 rfl ?_ | refine z11 rfl ?_ | refine nx ?_ | (refine z10 fun K hK=>?_;simp only [go_sem];apply hK;clear hK K))
     simp only [go_sem,retG,runBlks,lardRow,hD,hE,hLA,← hA0]
    | some c =>
     rw [htk] at h141 hst
     simp only [takeBlks,lardRow,Option.isSome_some] at h141
     repeat refine nx ?_
     refine z10 fun K hK=>?_
     simp only [go_sem]
     refine ⟨_,.given (hf:=h87) (hd:=rfl) (ha:=rfl),?_⟩
     simp only [go_sem]
     refine ⟨_,.own (ns:=[33,34,35]) (news:=[2]) (bads:=[34,35]) (rd:=[]) (hf:=h141) (hnd:=by decide) (hl0:=rfl) (hl1:=rfl) (hm:=by repeat (first | exact trivial | refine And.intro ?_ ?_ | rfl)) (hnew:=rfl) (hla:=rfl) (ha:=z24 (by repeat (first | exact trivial | refine And.intro ?_ ?_ | exact z27 rfl | exact z21 rfl rfl))) (hrd:=rfl) (hsh:=z22 _) (hb:=rfl) (hfl:=.inl rfl),?_⟩
     simp only [go_sem,List.map_cons,List.map_nil]
     apply hK
     clear hK K
     repeat (first | refine z12 rfl ?_ | refine z11 rfl ?_ | refine nx ?_ | (refine z10 fun K hK=>?_;simp only [go_sem,hw];apply hK;clear hK K))
     refine ⟨rfl,(d + 1,2,c,v),?_,⟨hlt,hst,fun h=>absurd (show 2=0 from h) (by decide),fun h=>absurd (show d + 1=0 from h) (by omega),(by decide:2<3)⟩,by dsimp only;omega⟩
     simp only [go_sem,nmL,lardRow]
     refine weA ?_ ?_ <;> simp
     all_goals first | done | rfl | exact ⟨rfl,rfl⟩ | trace_state
   ·have he:d=M.length:=by (have:¬ d<M.length:=by simpa using hb);omega
    subst he
    exfalso
    omega
  ·-- phase 1
   subst hp
   have hpos:d≠0:=fun h=>by have:=hd0 h;omega
   have hLA:=z112 hpos
   simp only [go_sem,nmL,lardRow]
   repeat (first | refine nx ?_ | (refine z10 fun K hK=>?_;simp only [go_sem];apply hK;clear hK K))
   refine z14 rfl (fun hb=>?_) (fun hb=>?_)
   ·have hlt:d<M.length:=by simpa using hb
    have hw:IntKind.i64.wrap ((d:Int) + 1)=((d + 1:Nat):Int):=by rw [z17 (by omega)];simp
    obtain ⟨r,hr⟩:∃ r,M[d]?=some r:=⟨_,List.getElem?_eq_getElem hlt⟩
    obtain ⟨hdd,hrl,hday⟩:=z148 hg hM hc hr
    have g1:=z32 hr
    have hni:¬ ((d:Int)<0):=by omega
    have hnd:needD k M cnt d=needL k r (cnt d):=by rw [needD,List.getD,hr];rfl
    have hst:=hstep hlt
    have hsp:=hstop hlt
    rw [hnd] at hst
    have h86:=z888 k hbl (d:Int) l (ordK k) w hll hla ⟨hw0,hw2⟩
    obtain ⟨c1,c2,c3⟩:=z51 (k:=k) (day:=(d:Int)) (w:=w) hla k.batches.length
    have c4:=z45 k (d:Int) l w k.batches.length
    change runSt k M cnt (d + 1)=(takeTo k (ordK k) (needL k r (cnt d)) (clrTo k (d:Int) l w k.batches.length).1 k.allerg.length).map fun c=>(c,(clrTo k (d:Int) l w k.batches.length).2) at hst
    change runSt k M cnt (d + 1)=none→lastD k M cnt M.length=d∧endSt k M cnt=clrTo k (d:Int) l w k.batches.length at hsp
    obtain ⟨⟨C,v⟩,hC⟩:∃ a,a=clrTo k (d:Int) l w k.batches.length:=⟨_,rfl⟩
    rw [← hC] at h86 c1 c2 c3 c4 hst hsp
    dsimp only at c1 c2 c3 c4 hst
    have h87:=(z887 k hg r (cnt d) 84 [.ptr [.bnd f [.agg k.cells]] 0,.ptr [.i (d:Int)] 0] hday (fun j hj=>z1029 k f d j (cnt d j) (hf d j hdd (by omega)))).deep
    have h141:=z955 k (needL k r (cnt d)) C (ordK k) v (by omega) hbl c1 (z53 hg hday) (by rw [z43];exact hgo.2) (fun x hx=>z68 hx) (by rw [z95];exact hbl)
    rw [z43] at h141
    simp only [lardRow] at h86
    rw [Kitchen.cells] at h87
    obtain ⟨N,hN⟩:∃ N,N=needL k r (cnt d):=⟨_,rfl⟩
    rw [← hN] at h87 h141 hst
    repeat refine nx ?_
    refine z10 fun K hK=>?_
    simp only [go_sem,g1,hni]
    apply hK
    clear hK K
    refine z20 [7] ?_
    simp only [go_sem]
    repeat refine nx ?_
    refine z10 fun K hK=>?_
    simp only [go_sem]
    refine ⟨_,.own (ns:=[33,1,35]) (news:=[]) (bads:=[1,35]) (rd:=[]) (hf:=h86) (hnd:=by decide) (hl0:=rfl) (hl1:=rfl) (hm:=by repeat (first | exact trivial | refine And.intro ?_ ?_ | rfl)) (hnew:=rfl) (hla:=rfl) (ha:=z24 (by repeat (first | exact trivial | refine And.intro ?_ ?_ | exact z27 rfl | exact z21 rfl rfl))) (hrd:=rfl) (hsh:=z22 _) (hb:=rfl) (hfl:=.inl rfl),?_⟩
    simp only [go_sem,List.map_cons,List.map_nil]
    apply hK
    clear hK K
    cases htk:takeTo k (ordK k) N C k.allerg.length with
    | none =>
     rw [htk] at h141 hst
     obtain ⟨hD,hE⟩:=hsp hst
     simp only [takeBlks,lardRow,Option.isSome_none] at h141
     repeat refine nx ?_
     refine z10 fun K hK=>?_
     simp only [go_sem]
     refine ⟨_,.given (hf:=h87) (hd:=rfl) (ha:=rfl),?_⟩
     simp only [go_sem]
     refine ⟨_,.own (ns:=[33,1,35]) (news:=[]) (bads:=[1,35]) (rd:=[]) (hf:=h141) (hnd:=by decide) (hl0:=rfl) (hl1:=rfl) (hm:=by repeat (first | exact trivial | refine And.intro ?_ ?_ | rfl)) (hnew:=rfl) (hla:=rfl) (ha:=z24 (by repeat (first | exact trivial | refine And.intro ?_ ?_ | exact z27 rfl | exact z21 rfl rfl))) (hrd:=rfl) (hsh:=z22 _) (hb:=rfl) (hfl:=.inl rfl),?_⟩
     simp only [go_sem,List.map_cons,List.map_nil]
     apply hK
     clear hK K
     repeat (first | refine nx ?_ | (refine z10 fun K hK=>?_;simp only [go_sem];apply hK;clear hK K))
     refine z20 [1] ?_
     simp only [go_sem]
     repeat (first | refine z12 rfl ?_ | refine z11 rfl ?_ | refine nx ?_ | (refine z10 fun K hK=>?_;simp only [go_sem];apply hK;clear hK K))
     simp only [go_sem,retG,runBlks,lardRow,hD,hE,hLA,← hA0]
    | some c =>
     rw [htk] at h141 hst
     simp only [takeBlks,lardRow,Option.isSome_some] at h141
     repeat refine nx ?_
     refine z10 fun K hK=>?_
     simp only [go_sem]
     refine ⟨_,.given (hf:=h87) (hd:=rfl) (ha:=rfl),?_⟩
     simp only [go_sem]
     refine ⟨_,.own (ns:=[33,1,35]) (news:=[2]) (bads:=[1,35]) (rd:=[]) (hf:=h141) (hnd:=by decide) (hl0:=rfl) (hl1:=rfl) (hm:=by repeat (first | exact trivial | refine And.intro ?_ ?_ | rfl)) (hnew:=rfl) (hla:=rfl) (ha:=z24 (by repeat (first | exact trivial | refine And.intro ?_ ?_ | exact z27 rfl | exact z21 rfl rfl))) (hrd:=rfl) (hsh:=z22 _) (hb:=rfl) (hfl:=.inl rfl),?_⟩
     simp only [go_sem,List.map_cons,List.map_nil]
     apply hK
     clear hK K
     repeat (first | refine z12 rfl ?_ | refine z11 rfl ?_ | refine nx ?_ | (refine z10 fun K hK=>?_;simp only [go_sem,hw];apply hK;clear hK K))
     refine ⟨rfl,(d + 1,2,c,v),?_,⟨hlt,hst,fun h=>absurd (show 2=0 from h) (by decide),fun h=>absurd (show d + 1=0 from h) (by omega),(by decide:2<3)⟩,by dsimp only;omega⟩
     simp only [go_sem,nmL,lardRow]
     refine weA ?_ ?_ <;> simp
     all_goals first | done | rfl | exact ⟨rfl,rfl⟩ | trace_state
   ·have he:d=M.length:=by (have:¬ d<M.length:=by simpa using hb);omega
    subst he
    obtain ⟨hD,hE⟩:=hlast rfl
    refine z20 [1] ?_
    simp only [go_sem]
    repeat (first | refine nx ?_ | (refine z10 fun K hK=>?_;simp only [go_sem];apply hK;clear hK K))
    simp only [go_sem,retG,runBlks,lardRow,hD,hE,hLA,← hA0]
  ·-- phase 2
   subst hp
   have hpos:d≠0:=fun h=>by have:=hd0 h;omega
   have hLA:=z112 hpos
   simp only [go_sem,nmL,lardRow]
   repeat (first | refine nx ?_ | (refine z10 fun K hK=>?_;simp only [go_sem];apply hK;clear hK K))
   refine z14 rfl (fun hb=>?_) (fun hb=>?_)
   ·have hlt:d<M.length:=by simpa using hb
    have hw:IntKind.i64.wrap ((d:Int) + 1)=((d + 1:Nat):Int):=by rw [z17 (by omega)];simp
    obtain ⟨r,hr⟩:∃ r,M[d]?=some r:=⟨_,List.getElem?_eq_getElem hlt⟩
    obtain ⟨hdd,hrl,hday⟩:=z148 hg hM hc hr
    have g1:=z32 hr
    have hni:¬ ((d:Int)<0):=by omega
    have hnd:needD k M cnt d=needL k r (cnt d):=by rw [needD,List.getD,hr];rfl
    have hst:=hstep hlt
    have hsp:=hstop hlt
    rw [hnd] at hst
    have h86:=z888 k hbl (d:Int) l (ordK k) w hll hla ⟨hw0,hw2⟩
    obtain ⟨c1,c2,c3⟩:=z51 (k:=k) (day:=(d:Int)) (w:=w) hla k.batches.length
    have c4:=z45 k (d:Int) l w k.batches.length
    change runSt k M cnt (d + 1)=(takeTo k (ordK k) (needL k r (cnt d)) (clrTo k (d:Int) l w k.batches.length).1 k.allerg.length).map fun c=>(c,(clrTo k (d:Int) l w k.batches.length).2) at hst
    change runSt k M cnt (d + 1)=none→lastD k M cnt M.length=d∧endSt k M cnt=clrTo k (d:Int) l w k.batches.length at hsp
    obtain ⟨⟨C,v⟩,hC⟩:∃ a,a=clrTo k (d:Int) l w k.batches.length:=⟨_,rfl⟩
    rw [← hC] at h86 c1 c2 c3 c4 hst hsp
    dsimp only at c1 c2 c3 c4 hst
    have h87:=(z887 k hg r (cnt d) 84 [.ptr [.bnd f [.agg k.cells]] 0,.ptr [.i (d:Int)] 0] hday (fun j hj=>z1029 k f d j (cnt d j) (hf d j hdd (by omega)))).deep
    have h141:=z955 k (needL k r (cnt d)) C (ordK k) v (by omega) hbl c1 (z53 hg hday) (by rw [z43];exact hgo.2) (fun x hx=>z68 hx) (by rw [z95];exact hbl)
    rw [z43] at h141
    simp only [lardRow] at h86
    rw [Kitchen.cells] at h87
    obtain ⟨N,hN⟩:∃ N,N=needL k r (cnt d):=⟨_,rfl⟩
    rw [← hN] at h87 h141 hst
    repeat refine nx ?_
    refine z10 fun K hK=>?_
    simp only [go_sem,g1,hni]
    apply hK
    clear hK K
    refine z20 [7] ?_
    simp only [go_sem]
    repeat refine nx ?_
    refine z10 fun K hK=>?_
    simp only [go_sem]
    refine ⟨_,.own (ns:=[33,2,35]) (news:=[]) (bads:=[2,35]) (rd:=[]) (hf:=h86) (hnd:=by decide) (hl0:=rfl) (hl1:=rfl) (hm:=by repeat (first | exact trivial | refine And.intro ?_ ?_ | rfl)) (hnew:=rfl) (hla:=rfl) (ha:=z24 (by repeat (first | exact trivial | refine And.intro ?_ ?_ | exact z27 rfl | exact z21 rfl rfl))) (hrd:=rfl) (hsh:=z22 _) (hb:=rfl) (hfl:=.inl rfl),?_⟩
    simp only [go_sem,List.map_cons,List.map_nil]
    apply hK
    clear hK K
    cases htk:takeTo k (ordK k) N C k.allerg.length with
    | none =>
     rw [htk] at h141 hst
     obtain ⟨hD,hE⟩:=hsp hst
     simp only [takeBlks,lardRow,Option.isSome_none] at h141
     repeat refine nx ?_
     refine z10 fun K hK=>?_
     simp only [go_sem]
     refine ⟨_,.given (hf:=h87) (hd:=rfl) (ha:=rfl),?_⟩
     simp only [go_sem]
     refine ⟨_,.own (ns:=[33,2,35]) (news:=[]) (bads:=[2,35]) (rd:=[]) (hf:=h141) (hnd:=by decide) (hl0:=rfl) (hl1:=rfl) (hm:=by repeat (first | exact trivial | refine And.intro ?_ ?_ | rfl)) (hnew:=rfl) (hla:=rfl) (ha:=z24 (by repeat (first | exact trivial | refine And.intro ?_ ?_ | exact z27 rfl | exact z21 rfl rfl))) (hrd:=rfl) (hsh:=z22 _) (hb:=rfl) (hfl:=.inl rfl),?_⟩
     simp only [go_sem,List.map_cons,List.map_nil]
     apply hK
     clear hK K
     repeat (first | refine nx ?_ | (refine z10 fun K hK=>?_;simp only [go_sem];apply hK;clear hK K))
     refine z20 [2] ?_
     simp only [go_sem]
     repeat (first | refine z12 rfl ?_ | refine z11 rfl ?_ | refine nx ?_ | (refine z10 fun K hK=>?_;simp only [go_sem];apply hK;clear hK K))
     simp only [go_sem,retG,runBlks,lardRow,hD,hE,hLA,← hA0]
    | some c =>
     rw [htk] at h141 hst
     simp only [takeBlks,lardRow,Option.isSome_some] at h141
     repeat refine nx ?_
     refine z10 fun K hK=>?_
     simp only [go_sem]
     refine ⟨_,.given (hf:=h87) (hd:=rfl) (ha:=rfl),?_⟩
     simp only [go_sem]
     refine ⟨_,.own (ns:=[33,2,35]) (news:=[1]) (bads:=[2,35]) (rd:=[]) (hf:=h141) (hnd:=by decide) (hl0:=rfl) (hl1:=rfl) (hm:=by repeat (first | exact trivial | refine And.intro ?_ ?_ | rfl)) (hnew:=rfl) (hla:=rfl) (ha:=z24 (by repeat (first | exact trivial | refine And.intro ?_ ?_ | exact z27 rfl | exact z21 rfl rfl))) (hrd:=rfl) (hsh:=z22 _) (hb:=rfl) (hfl:=.inl rfl),?_⟩
     simp only [go_sem,List.map_cons,List.map_nil]
     apply hK
     clear hK K
     repeat (first | refine z12 rfl ?_ | refine z11 rfl ?_ | refine nx ?_ | (refine z10 fun K hK=>?_;simp only [go_sem,hw];apply hK;clear hK K))
     refine ⟨rfl,(d + 1,1,c,v),?_,⟨hlt,hst,fun h=>absurd (show 1=0 from h) (by decide),fun h=>absurd (show d + 1=0 from h) (by omega),(by decide:1<3)⟩,by dsimp only;omega⟩
     simp only [go_sem,nmL,lardRow]
     refine weA ?_ ?_ <;> simp
     all_goals first | done | rfl | exact ⟨rfl,rfl⟩ | trace_state
   ·have he:d=M.length:=by (have:¬ d<M.length:=by simpa using hb);omega
    subst he
    obtain ⟨hD,hE⟩:=hlast rfl
    refine z20 [2] ?_
    simp only [go_sem]
    repeat (first | refine nx ?_ | (refine z10 fun K hK=>?_;simp only [go_sem];apply hK;clear hK K))
    simp only [go_sem,retG,runBlks,lardRow,hD,hE,hLA,← hA0]
end Go.Ab
namespace Go.Ab
open Go.RowKit Go.Proofs
set_option maxHeartbeats 16000000
set_option maxRecDepth 20000
attribute [local irreducible] WalkL Walk
def sel (b:Bool) (d:DV):AV:=bif b then .undef else .d d
@[go_sem] theorem sel_true (d:DV):sel true d=.undef:=rfl
@[go_sem] theorem sel_false (d:DV):sel false d=.d d:=rfl
@[go_sem] theorem sel_mapN (h:Nat→Option Nat) (b:Bool) (d:DV):AV.mapN h (sel b d)=sel b d:=by cases b <;> simp [sel,AV.mapN]
@[go_sem] theorem sel_sub (n:Nat) (h:AV→AV) (b:Bool) (d:DV):AV.sub n h (sel b d)=sel b d:=by cases b <;> simp [sel,AV.sub]
def stB (a b:Bool) (x y:Blk):Option Blk:=bif a then none else some (bif b then x else y)
@[go_sem] theorem stB_t (b:Bool) (x y:Blk):stB true b x y=none:=rfl
@[go_sem] theorem stB_ft (x y:Blk):stB false true x y=some x:=rfl
@[go_sem] theorem stB_ff (x y:Blk):stB false false x y=some y:=rfl
def mostK (k:Kitchen) (M:List (List Int)):Nat:=lastD k M (fun d g=>(dinAt k d g).count.hi) M.length
def leastK (k:Kitchen) (M:List (List Int)):Nat:=lastD k M (fun d g=>(dinAt k d g).count.lo) M.length
theorem z1098 (k:Kitchen) (M:List (List Int)) (hs:KitSmall k) (hM:M.length<2 ^ 30) (hMr:∀ r ∈ M,r.length<2 ^ 30) :
  Fn Try.prog 27 [.agg k.cells,.sl (listRows M)] (.tup (if openK k M=0 then [.i (mostK k M),.i (leastK k M),.i 0] else [.i 0,.i 0,.i (openK k M)])):=by
 have h84:=z1033 k M hs hM hMr
 rw [Kitchen.cells] at h84
 by_cases h0:openK k M=0
 ·rw [if_pos h0]
  have hg:KitGood k:=by
   unfold openK at h0
   split at h0
   ·rename_i hz;exact z173 (z160.1 hz)
   ·contradiction
  have hsh:shapedB (menuB k) M k.days=true:=by
   unfold openK at h0
   split at h0
   ·split at h0
    ·assumption
    ·cases h0
   ·contradiction
  rw [h0] at h84
  have h85:=z1000 k hg.batches
  change FnG Try.prog 41 [] [] (List.map AV.d [.agg k.cells]) _ _ at h85
  have hhi:=(z1054 k hg M hsh _ _ (z861 hg) (fun d g hd hgl=>z1024 k d g hd hgl)).boxNil
  have hlo:=(z1054 k hg M hsh _ _ (z980 hg) (fun d g hd hgl=>z1091 k d g hd hgl)).boxNil
  change FnG Try.prog 55 _ _ _ (.d (.i (mostK k M:Nat))) _ at hhi
  change FnG Try.prog 55 _ _ _ (.d (.i (leastK k M:Nat))) _ at hlo
  obtain ⟨hi,hhi'⟩:∃ n,n=mostK k M:=⟨_,rfl⟩
  obtain ⟨lo,hlo'⟩:∃ n,n=leastK k M:=⟨_,rfl⟩
  rw [← hhi'] at hhi ⊢
  rw [← hlo'] at hlo ⊢
  refine z18 29 Try.call27 Try.func27 rfl (by decide) fun J=>?_
  simp only [go_sem,St.start,Try.ntmps27,Try.results27,Kitchen.cells]
  repeat (first | refine z12 rfl ?_ | refine z11 rfl ?_ | refine nx ?_ | (refine z10 fun K hK=>?_;simp only [go_sem];(repeat (first | (refine ⟨_,.lent (hf:=h84) (hd:=rfl) (hr:=rfl),?_⟩;simp only [go_sem]) | (refine ⟨_,.given (hf:=h84) (hd:=rfl) (ha:=rfl),?_⟩;simp only [go_sem])));apply hK;clear hK K))
  have hcl:k.cells.length=4:=rfl
  have hct:k.cells.take 4=k.cells:=rfl
  refine z20 [2,7] ?_
  simp only [go_sem]
  refine z70 [2,3,8,9,10,11,12,13,14,15,16] ?_ ?_
  ·simp only [go_sem]
   refine weA ?_ ?_ <;> simp
  simp only [go_sem]
  refine z473 (by kernel_rfl) (by kernel_rfl) (fun m=>⟨[.d (.agg k.cells),.d (.sl (listRows M)),.undef,.undef,.d (bif m 12 then .i 0 else .i (hi:Nat)),.d (bif m 13 then .i 0 else .i (lo:Nat)),.d (.i 0),.d (.ptr k.cells 0),.undef,.undef,.undef,.undef,.undef,.undef,.undef,.undef,.undef,
    sel (m 0) (.agg k.cells),bif m 1 then .undef else .box 9 0,sel (m 2) (.sl (listRows M)),sel (m 3) (.agg k.cells),sel (m 4) (.bnd 46 [.agg k.cells]),sel (m 5) (.i (hi:Nat)),sel (m 6) (.agg k.cells),bif m 7 then .undef else .box 12 0,sel (m 8) (.sl (listRows M)),sel (m 9) (.agg k.cells),sel (m 10) (.bnd 57 [.agg k.cells]),sel (m 11) (.i (lo:Nat))],
   [none,none,none,none,none,none,none,none,none,stB (m 1) (m 5) (.box (lardRow k (.own 10) (.own 11) 0)) (.box []),stB (m 1) (m 5) (.arr 3 1 (intRows (amtK k))) (.arr 3 1 (intRows (left0 k))),stB (m 1) (m 5) (.arr 3 1 (natRows (ordK k))) (.arr 3 1 (natRows (ordK k))),
    stB (m 7) (m 11) (.box (lardRow k (.own 13) (.own 14) 0)) (.box []),stB (m 7) (m 11) (.arr 3 1 (intRows (amtK k))) (.arr 3 1 (intRows (left0 k))),stB (m 7) (m 11) (.arr 3 1 (natRows (ordK k))) (.arr 3 1 (natRows (ordK k))),none,none,none,none,none,none,none,none,none,none,none,none,none,none]⟩) ?_ ?_ ?_
  ·simp only [go_sem]
   rfl
  ·refine ⟨fun m hm hd hc=>?_,fun m hm hd hc=>?_,fun m hm hd hc=>?_,fun m hm hd hc=>?_,fun m hm hd hc=>?_,fun m hm hd hc=>?_,fun m hm hd hc=>?_,fun m hm hd hc=>?_,fun m hm hd hc=>?_,fun m hm hd hc=>?_,fun m hm hd hc=>?_,fun m hm hd hc=>?_,fun m hm hd hc=>?_,fun m hm hd hc=>?_,fun m hm hd hc=>?_,trivial⟩
   ·simp only [closedM,depsM,Region.binds,true_and,and_true,Nat.zero_add,Nat.reduceAdd,reduceCtorEq,forall_const] at hc hd
    cases h1:m 1 <;> cases h5:m 5 <;> cases h7:m 7 <;> cases h11:m 11 <;> simp [h1,h5,h7,h11,hm] at hc hd
    all_goals
     refine ⟨rfl,rfl,?_⟩
     simp only [go_sem,hm,hd,h1,h5,h7,h11,hcl,hct]
   ·simp only [closedM,depsM,Region.binds,true_and,and_true,Nat.zero_add,Nat.reduceAdd,reduceCtorEq,forall_const] at hc hd
    have h1:=hm
    cases h5:m 5 <;> cases h7:m 7 <;> cases h11:m 11 <;> simp [h1,h5,h7,h11,hm] at hc hd
    all_goals
     refine ⟨rfl,rfl,?_⟩
     simp only [go_sem,hm,hd,h1,h5,h7,h11,hcl,hct]
    refine ⟨_,.made (news:=[9,10,11]) (hf:=h85) (hd:=rfl) (hn:=by decide) (hl:=rfl) (hnew:=rfl) (hx:=rfl),?_⟩
    simp only [go_sem,List.map_cons,List.map_nil,lardRow]
   ·simp only [closedM,depsM,Region.binds,true_and,and_true,Nat.zero_add,Nat.reduceAdd,reduceCtorEq,forall_const] at hc hd
    cases h1:m 1 <;> cases h5:m 5 <;> cases h7:m 7 <;> cases h11:m 11 <;> simp [h1,h5,h7,h11,hm] at hc hd
    all_goals
     refine ⟨rfl,rfl,?_⟩
     simp only [go_sem,hm,hd,h1,h5,h7,h11,hcl,hct]
   ·simp only [closedM,depsM,Region.binds,true_and,and_true,Nat.zero_add,Nat.reduceAdd,reduceCtorEq,forall_const] at hc hd
    cases h1:m 1 <;> cases h5:m 5 <;> cases h7:m 7 <;> cases h11:m 11 <;> simp [h1,h5,h7,h11,hm] at hc hd
    all_goals
     refine ⟨rfl,rfl,?_⟩
     simp only [go_sem,hm,hd,h1,h5,h7,h11,hcl,hct]
   ·simp only [closedM,depsM,Region.binds,true_and,and_true,Nat.zero_add,Nat.reduceAdd,reduceCtorEq,forall_const] at hc hd
    cases h1:m 1 <;> cases h5:m 5 <;> cases h7:m 7 <;> cases h11:m 11 <;> simp [h1,h5,h7,h11,hm] at hc hd
    all_goals
     refine ⟨rfl,rfl,?_⟩
     simp only [go_sem,hm,hd,h1,h5,h7,h11,hcl,hct]
   ·simp only [closedM,depsM,Region.binds,true_and,and_true,Nat.zero_add,Nat.reduceAdd,reduceCtorEq,forall_const] at hc hd
    have h5:=hm
    cases h1:m 1 <;> cases h7:m 7 <;> cases h11:m 11 <;> simp [h1,h5,h7,h11,hm] at hc hd
    all_goals
     refine ⟨rfl,rfl,?_⟩
     simp only [go_sem,hm,hd,h1,h5,h7,h11,hcl,hct]
    simp only [go_sem,lardRow]
    refine ⟨_,.own (ns:=[9,10,11]) (news:=[]) (bads:=[10,11]) (rd:=[]) (hf:=hhi) (hnd:=by decide) (hl0:=rfl) (hl1:=rfl) (hm:=by repeat (first | exact trivial | refine And.intro ?_ ?_ | rfl)) (hnew:=rfl) (hla:=rfl) (ha:=z24 (by repeat (first | exact trivial | refine And.intro ?_ ?_ | exact z27 rfl | exact z21 rfl rfl))) (hrd:=rfl) (hsh:=z22 _) (hb:=rfl) (hfl:=.inl rfl),?_⟩
    simp only [go_sem,List.map_cons,List.map_nil,lardRow]
   ·simp only [closedM,depsM,Region.binds,true_and,and_true,Nat.zero_add,Nat.reduceAdd,reduceCtorEq,forall_const] at hc hd
    cases h1:m 1 <;> cases h5:m 5 <;> cases h7:m 7 <;> cases h11:m 11 <;> simp [h1,h5,h7,h11,hm] at hc hd
    all_goals
     refine ⟨rfl,rfl,?_⟩
     simp only [go_sem,hm,hd,h1,h5,h7,h11,hcl,hct]
   ·simp only [closedM,depsM,Region.binds,true_and,and_true,Nat.zero_add,Nat.reduceAdd,reduceCtorEq,forall_const] at hc hd
    have h7:=hm
    cases h1:m 1 <;> cases h5:m 5 <;> cases h11:m 11 <;> simp [h1,h5,h7,h11,hm] at hc hd
    all_goals
     refine ⟨rfl,rfl,?_⟩
     simp only [go_sem,hm,hd,h1,h5,h7,h11,hcl,hct]
    refine ⟨_,.made (news:=[12,13,14]) (hf:=h85) (hd:=rfl) (hn:=by decide) (hl:=rfl) (hnew:=rfl) (hx:=rfl),?_⟩
    simp only [go_sem,List.map_cons,List.map_nil,lardRow]
   ·simp only [closedM,depsM,Region.binds,true_and,and_true,Nat.zero_add,Nat.reduceAdd,reduceCtorEq,forall_const] at hc hd
    cases h1:m 1 <;> cases h5:m 5 <;> cases h7:m 7 <;> cases h11:m 11 <;> simp [h1,h5,h7,h11,hm] at hc hd
    all_goals
     refine ⟨rfl,rfl,?_⟩
     simp only [go_sem,hm,hd,h1,h5,h7,h11,hcl,hct]
   ·simp only [closedM,depsM,Region.binds,true_and,and_true,Nat.zero_add,Nat.reduceAdd,reduceCtorEq,forall_const] at hc hd
    cases h1:m 1 <;> cases h5:m 5 <;> cases h7:m 7 <;> cases h11:m 11 <;> simp [h1,h5,h7,h11,hm] at hc hd
    all_goals
     refine ⟨rfl,rfl,?_⟩
     simp only [go_sem,hm,hd,h1,h5,h7,h11,hcl,hct]
   ·simp only [closedM,depsM,Region.binds,true_and,and_true,Nat.zero_add,Nat.reduceAdd,reduceCtorEq,forall_const] at hc hd
    cases h1:m 1 <;> cases h5:m 5 <;> cases h7:m 7 <;> cases h11:m 11 <;> simp [h1,h5,h7,h11,hm] at hc hd
    all_goals
     refine ⟨rfl,rfl,?_⟩
     simp only [go_sem,hm,hd,h1,h5,h7,h11,hcl,hct]
   ·simp only [closedM,depsM,Region.binds,true_and,and_true,Nat.zero_add,Nat.reduceAdd,reduceCtorEq,forall_const] at hc hd
    have h11:=hm
    cases h1:m 1 <;> cases h5:m 5 <;> cases h7:m 7 <;> simp [h1,h5,h7,h11,hm] at hc hd
    all_goals
     refine ⟨rfl,rfl,?_⟩
     simp only [go_sem,hm,hd,h1,h5,h7,h11,hcl,hct]
    simp only [go_sem,lardRow]
    refine ⟨_,.own (ns:=[12,13,14]) (news:=[]) (bads:=[13,14]) (rd:=[]) (hf:=hlo) (hnd:=by decide) (hl0:=rfl) (hl1:=rfl) (hm:=by repeat (first | exact trivial | refine And.intro ?_ ?_ | rfl)) (hnew:=rfl) (hla:=rfl) (ha:=z24 (by repeat (first | exact trivial | refine And.intro ?_ ?_ | exact z27 rfl | exact z21 rfl rfl))) (hrd:=rfl) (hsh:=z22 _) (hb:=rfl) (hfl:=.inl rfl),?_⟩
    simp only [go_sem,List.map_cons,List.map_nil,lardRow]
   ·simp only [closedM,depsM,Region.binds,true_and,and_true,Nat.zero_add,Nat.reduceAdd,reduceCtorEq,forall_const] at hc hd
    cases h1:m 1 <;> cases h5:m 5 <;> cases h7:m 7 <;> cases h11:m 11 <;> simp [h1,h5,h7,h11,hm] at hc hd
    all_goals
     refine ⟨rfl,rfl,?_⟩
     simp only [go_sem,hm,hd,h1,h5,h7,h11,hcl,hct]
   ·simp only [closedM,depsM,Region.binds,true_and,and_true,Nat.zero_add,Nat.reduceAdd,reduceCtorEq,forall_const] at hc hd
    cases h1:m 1 <;> cases h5:m 5 <;> cases h7:m 7 <;> cases h11:m 11 <;> simp [h1,h5,h7,h11,hm] at hc hd
    all_goals
     refine ⟨rfl,rfl,?_⟩
     simp only [go_sem,hm,hd,h1,h5,h7,h11,hcl,hct]
   ·simp only [closedM,depsM,Region.binds,true_and,and_true,Nat.zero_add,Nat.reduceAdd,reduceCtorEq,forall_const] at hc hd
    cases h1:m 1 <;> cases h5:m 5 <;> cases h7:m 7 <;> cases h11:m 11 <;> simp [h1,h5,h7,h11,hm] at hc hd
    all_goals
     refine ⟨rfl,rfl,?_⟩
     simp only [go_sem,hm,hd,h1,h5,h7,h11,hcl,hct]
  ·simp only [go_sem]
   repeat (first | refine nx ?_ | (refine z10 fun K hK=>?_;simp only [go_sem];apply hK;clear hK K))
   simp only [go_sem]
 ·rw [if_neg h0]
  have hz:(openK k M != 0)=true:=by simpa using h0
  obtain ⟨e,he⟩:∃ e,e=openK k M:=⟨_,rfl⟩
  rw [← he] at h84 hz ⊢
  refine z18 29 Try.call27 Try.func27 rfl (by decide) fun J=>?_
  simp only [go_sem,St.start,Try.ntmps27,Try.results27,Kitchen.cells]
  repeat (first | refine z12 rfl ?_ | refine z11 rfl ?_ | refine nx ?_ | (refine z10 fun K hK=>?_;simp only [go_sem,hz];(repeat (first | (refine ⟨_,.lent (hf:=h84) (hd:=rfl) (hr:=rfl),?_⟩;simp only [go_sem,hz]) | (refine ⟨_,.given (hf:=h84) (hd:=rfl) (ha:=rfl),?_⟩;simp only [go_sem,hz])));apply hK;clear hK K))
  simp only [go_sem]
end Go.Ab
namespace Go.Ab
open Go.RowKit Go.Proofs
set_option maxHeartbeats 16000000
set_option maxRecDepth 20000
attribute [local irreducible] WalkL Walk
def ordG (k:Kitchen) (o:List Nat) (needs:List Int) (a:List Int × List Int):Nat→List Int × List Int
 | 0=>a
 | g + 1=>((takeG k o g (ordG k o needs a g).1 (getI needs (g:Int))).1,(ordG k o needs a g).2.set g (getI (ordG k o needs a g).2 (g:Int) + (takeG k o g (ordG k o needs a g).1 (getI needs (g:Int))).2))
def hiC (k:Kitchen) (d g:Nat):Int:=(dinAt k d g).count.hi
def ordD (k:Kitchen) (M:List (List Int)):Nat→List Int × List Int × Int
 | 0=>(amtK k,List.replicate k.allerg.length 0,0)
 | d + 1=>((ordG k (ordK k) (needD k M (hiC k) d) ((clrTo k (d:Int) (ordD k M d).1 (ordD k M d).2.2 k.batches.length).1,(ordD k M d).2.1) k.allerg.length).1,
   (ordG k (ordK k) (needD k M (hiC k) d) ((clrTo k (d:Int) (ordD k M d).1 (ordD k M d).2.2 k.batches.length).1,(ordD k M d).2.1) k.allerg.length).2,
   (clrTo k (d:Int) (ordD k M d).1 (ordD k M d).2.2 k.batches.length).2)
def orderK (k:Kitchen) (M:List (List Int)):List Int:=(ordD k M M.length).2.1
def BuyOk (n:Int) (l:List Int):Prop:=∀ x ∈ l,0≤x∧x≤n
theorem z835 {k:Kitchen} {o:List Nat} {needs:List Int} {a:List Int × List Int} {B:Int} (h:AmtOk a.1) (hb:BuyOk B a.2) (hB:0≤B) (hn:∀ x ∈ needs,0≤x∧x≤2 ^ 40) (g:Nat) :
  AmtOk (ordG k o needs a g).1∧(ordG k o needs a g).1.length=a.1.length∧BuyOk (B + 2 ^ 40) (ordG k o needs a g).2∧(ordG k o needs a g).2.length=a.2.length∧∀ i:Nat,g≤i→getI (ordG k o needs a g).2 (i:Int)=getI a.2 (i:Int):=by
 induction g with
 | zero=>exact ⟨h,rfl,fun x hx=>by have:=hb x hx;omega,rfl,fun _ _=>rfl⟩
 | succ g ih =>
  obtain ⟨h1,h2,h3,h4,h5⟩:=ih
  have hng:0≤getI needs (g:Int)∧getI needs (g:Int)≤2 ^ 40:=z163 hn (by decide) _
  have ht:=z263 (k:=k) (good:=g) o (a:=((ordG k o needs a g).1,getI needs (g:Int))) h1 hng.1
  change AmtOk (takeG k o g (ordG k o needs a g).1 (getI needs (g:Int))).1∧(takeG k o g (ordG k o needs a g).1 (getI needs (g:Int))).1.length=(ordG k o needs a g).1.length∧0≤(takeG k o g (ordG k o needs a g).1 (getI needs (g:Int))).2∧(takeG k o g (ordG k o needs a g).1 (getI needs (g:Int))).2≤getI needs (g:Int) at ht
  obtain ⟨t1,t2,t3,t4⟩:=ht
  have hbg:0≤getI a.2 (g:Int)∧getI a.2 (g:Int)≤B:=z163 hb ⟨Int.le_refl 0,hB⟩ _
  refine ⟨t1,by rw [ordG];dsimp only;rw [t2,h2],?_,by rw [ordG];simp [h4],fun i hi=>?_⟩
  ·intro x hx
   rw [ordG] at hx
   rcases List.mem_or_eq_of_mem_set hx with hx | hx
   ·exact h3 x hx
   ·rw [hx,h5 g (Nat.le_refl _)]
    omega
  ·rw [ordG]
   dsimp only
   rw [getI,getI,List.getD,List.getD,Int.toNat_natCast,List.getElem?_set_ne (by omega)]
   have:=h5 i (by omega)
   rw [getI,getI,List.getD,List.getD,Int.toNat_natCast] at this
   exact this
theorem z970 {k:Kitchen} (hg:KitGood k) {M:List (List Int)} (hM:shapedB (menuB k) M k.days=true) (d:Nat) (hd:d≤M.length) :
  AmtOk (ordD k M d).1∧(ordD k M d).1.length=k.batches.length∧BuyOk (2 ^ 40 * d) (ordD k M d).2.1∧(ordD k M d).2.1.length=k.allerg.length∧0≤(ordD k M d).2.2∧(ordD k M d).2.2≤10000000 * d:=by
 induction d with
 | zero=>exact ⟨z321 hg,by simp [ordD,amtK],fun x hx=>by rw [ordD] at hx;have:=List.eq_of_mem_replicate hx;omega,by simp [ordD],Int.le_refl 0,by simp [ordD]⟩
 | succ d ih =>
  obtain ⟨h1,h2,h3,h4,h5,h6⟩:=ih (by omega)
  obtain ⟨r,hr⟩:∃ r,M[d]?=some r:=⟨_,List.getElem?_eq_getElem (by omega)⟩
  obtain ⟨_,_,hdo⟩:=z148 hg hM (z861 hg) hr
  have hnd:needD k M (hiC k) d=needL k r (hiC k d):=by rw [needD,List.getD,hr];rfl
  obtain ⟨c1,c2,c3⟩:=z51 (k:=k) (day:=(d:Int)) (w:=(ordD k M d).2.2) h1 k.batches.length
  have c4:=z45 k (d:Int) (ordD k M d).1 (ordD k M d).2.2 k.batches.length
  have hb:=hg.batches
  obtain ⟨o1,o2,o3,o4,_⟩:=z835 (k:=k) (o:=ordK k) (needs:=needD k M (hiC k) d) (a:=((clrTo k (d:Int) (ordD k M d).1 (ordD k M d).2.2 k.batches.length).1,(ordD k M d).2.1)) (B:=2 ^ 40 * d) c1 h3 (by omega) (by rw [hnd];exact z53 hg hdo) k.allerg.length
  refine ⟨o1,?_,?_,?_,?_,?_⟩
  ·rw [ordD];dsimp only;rw [o2];dsimp only;rw [c4,h2]
  ·rw [ordD];dsimp only
   have e:(2:Int) ^ 40 * (d:Int) + 2 ^ 40=2 ^ 40 * ((d + 1:Nat):Int):=by push_cast;omega
   rw [← e]
   exact o3
  ·rw [ordD];dsimp only;rw [o4];exact h4
  ·rw [ordD];dsimp only;omega
  ·rw [ordD];dsimp only;push_cast;omega
theorem z1094 (k:Kitchen) (day group:Nat) (hd:day<k.days.length) (hg:group<(k.days.getD day []).length):Fn Try.prog 49 [.i (group:Int),.ptr k.cells 0,.ptr [.i (day:Int)] 0] (.i (hiC k day group)):=by
 have h:=z1024 k day group hd hg
 unfold hiC
 rw [Kitchen.cells] at h ⊢
 refine z18 9 Try.call49 Try.func49 rfl (by decide) fun J=>?_
 simp only [go_sem,St.start,Try.ntmps49,Try.results49]
 repeat (first | refine nx ?_ | (refine z10 fun K hK=>?_;simp only [go_sem];(repeat (first | (refine ⟨_,.lent (hf:=h) (hd:=rfl) (hr:=rfl),?_⟩;simp only [go_sem]) | (refine ⟨_,.given (hf:=h) (hd:=rfl) (ha:=rfl),?_⟩;simp only [go_sem])));apply hK;clear hK K))
 simp only [go_sem]
end Go.Ab
namespace Go.Ab
open Go.RowKit Go.Proofs
set_option maxHeartbeats 16000000
set_option maxRecDepth 20000
attribute [local irreducible] WalkL Walk
theorem z836 {k:Kitchen} {M:List (List Int)} (h0:openK k M=0):KitGood k∧shapedB (menuB k) M k.days=true:=by
 unfold openK at h0
 split at h0
 ·rename_i hz
  split at h0
  ·exact ⟨z173 (z160.1 hz),by assumption⟩
  ·cases h0
 ·contradiction
theorem z1103 (k:Kitchen) (M:List (List Int)) (hs:KitSmall k) (hM:M.length<2 ^ 30) (hMr:∀ r ∈ M,r.length<2 ^ 30) :
  Fn Try.prog 17 [.agg k.cells,.sl (listRows M)] (.tup (if openK k M=0 then [.sl (intRows (orderK k M)),.i 0] else [.sl [],.i (openK k M)])):=by
 have h84:=z1033 k M hs hM hMr
 rw [Kitchen.cells] at h84
 by_cases h0:openK k M=0
 ·rw [if_pos h0]
  obtain ⟨hg,hsh⟩:=z836 h0
  rw [h0] at h84
  have h85:=z1000 k hg.batches
  change FnG Try.prog 41 [] [] (List.map AV.d [.agg k.cells]) _ _ at h85
  have hbl:=hg.batches
  have hdl:=hg.days
  have hMl:=z38 hsh
  have hgo:=hg.goods
  have hmk:(k.allerg.length:Int)≤1099511627776:=by omega
  have hrep:=z301 k.allerg.length
  have hcl:k.cells.length=4:=rfl
  have hct:k.cells.take 4=k.cells:=rfl
  have hOK:=fun d hd=>z970 hg hsh d hd
  rw [orderK]
  obtain ⟨F,hF⟩:∃ F,F=ordD k M:=⟨_,rfl⟩
  have hF0:F 0=(amtK k,List.replicate k.allerg.length 0,0):=by rw [hF];rfl
  have hFs:∀ d,F (d + 1)=((ordG k (ordK k) (needD k M (hiC k) d) ((clrTo k (d:Int) (F d).1 (F d).2.2 k.batches.length).1,(F d).2.1) k.allerg.length).1,
   (ordG k (ordK k) (needD k M (hiC k) d) ((clrTo k (d:Int) (F d).1 (F d).2.2 k.batches.length).1,(F d).2.1) k.allerg.length).2,
   (clrTo k (d:Int) (F d).1 (F d).2.2 k.batches.length).2):=fun d=>by rw [hF];rfl
  rw [← hF] at hOK ⊢
  refine z18 102 Try.call17 Try.func17 rfl (by decide) fun J=>?_
  simp only [go_sem,St.start,Try.ntmps17,Try.results17,Kitchen.cells]
  repeat (first | refine z12 rfl ?_ | refine z11 rfl ?_ | refine nx ?_ | (refine z10 fun K hK=>?_;simp only [go_sem];(repeat (first | (refine ⟨_,.lent (hf:=h84) (hd:=rfl) (hr:=rfl),?_⟩;simp only [go_sem]) | (refine ⟨_,.given (hf:=h84) (hd:=rfl) (ha:=rfl),?_⟩;simp only [go_sem])));apply hK;clear hK K))
  refine z20 [2,6] ?_
  simp only [go_sem]
  refine z10 fun K hK=>?_
  simp only [go_sem,hmk,hrep]
  apply hK
  clear hK K
  repeat refine nx ?_
  refine z10 fun K hK=>?_
  simp only [go_sem,hcl,hct]
  refine ⟨_,.made (news:=[0,1,3]) (hf:=h85) (hd:=rfl) (hn:=by decide) (hl:=rfl) (hnew:=rfl) (hx:=rfl),?_⟩
  simp only [go_sem,List.map_cons,List.map_nil,lardRow]
  apply hK
  clear hK K
  repeat (first | refine nx ?_ | (refine z10 fun K hK=>?_;simp only [go_sem,z25];apply hK;clear hK K))
  refine z15 (fun (d:Nat)=>[(34,.d (.i (d:Int)))]) (fun d=>[(0,some (.box (lardRow k (.own 1) (.own 3) (F d).2.2))),(1,some (.arr 3 1 (intRows (F d).1))),(29,some (.arr 3 1 (intRows (F d).2.1)))]) (fun d=>d≤M.length) (fun d=>M.length - d) 0 ?_ (Nat.zero_le _) ?_
  ·rw [hF0]
   simp only [go_sem,lardRow]
   refine weA ?_ ?_ <;> simp
   all_goals first | done | rfl | exact ⟨rfl,rfl⟩ | trace_state
  ·intro d hd
   obtain ⟨a1,a2,a3,a4,a5,a6⟩:=hOK d hd
   have hnx:=hFs d
   obtain ⟨⟨l,b,w⟩,hFd⟩:∃ x,F d=x:=⟨_,rfl⟩
   rw [hFd] at a1 a2 a3 a4 a5 a6 hnx ⊢
   dsimp only at a1 a2 a3 a4 a5 a6 hnx ⊢
   have hw2:w≤2 ^ 40:=by omega
   simp only [go_sem,lardRow]
   repeat (first | refine nx ?_ | (refine z10 fun K hK=>?_;simp only [go_sem];apply hK;clear hK K))
   refine z14 rfl (fun hb=>?_) (fun hb=>?_)
   ·have hlt:d<M.length:=by simpa using hb
    have hw:IntKind.i64.wrap ((d:Int) + 1)=((d + 1:Nat):Int):=by rw [z17 (by omega)];simp
    obtain ⟨r,hr⟩:∃ r,M[d]?=some r:=⟨_,List.getElem?_eq_getElem hlt⟩
    obtain ⟨hdd,hrl,hday⟩:=z148 hg hsh (z861 hg) hr
    change DayOk k r (hiC k d) at hday
    have g1:=z32 hr
    have hni:¬ ((d:Int)<0):=by omega
    have hnd:needD k M (hiC k) d=needL k r (hiC k d):=by rw [needD,List.getD,hr];rfl
    rw [hnd] at hnx
    have h86:=z888 k hbl (d:Int) l (ordK k) w a2 a1 ⟨a5,hw2⟩
    obtain ⟨c1,c2,c3⟩:=z51 (k:=k) (day:=(d:Int)) (w:=w) a1 k.batches.length
    have c4:=z45 k (d:Int) l w k.batches.length
    obtain ⟨⟨C,v⟩,hC⟩:∃ a,a=clrTo k (d:Int) l w k.batches.length:=⟨_,rfl⟩
    rw [← hC] at h86 c1 c2 c3 c4 hnx
    dsimp only at c1 c2 c3 c4 hnx
    have h87:=(z887 k hg r (hiC k d) 49 [.ptr k.cells 0,.ptr [.i (d:Int)] 0] hday (fun j hj=>z1094 k d j hdd (by omega))).deep
    simp only [lardRow] at h86
    have hNo:=z53 hg hday
    have hNl:=z43 k r (hiC k d)
    obtain ⟨N,hN⟩:∃ N,N=needL k r (hiC k d):=⟨_,rfl⟩
    rw [← hN] at h87 hnx hNo hNl
    repeat refine nx ?_
    refine z10 fun K hK=>?_
    simp only [go_sem,g1,hni]
    apply hK
    clear hK K
    refine z20 [10] ?_
    simp only [go_sem]
    repeat refine nx ?_
    refine z10 fun K hK=>?_
    simp only [go_sem]
    refine ⟨_,.own (ns:=[0,1,3]) (news:=[]) (bads:=[1,3]) (rd:=[]) (hf:=h86) (hnd:=by decide) (hl0:=rfl) (hl1:=rfl) (hm:=by repeat (first | exact trivial | refine And.intro ?_ ?_ | rfl)) (hnew:=rfl) (hla:=rfl) (ha:=z24 (by repeat (first | exact trivial | refine And.intro ?_ ?_ | exact z27 rfl | exact z21 rfl rfl))) (hrd:=rfl) (hsh:=z22 _) (hb:=rfl) (hfl:=.inl rfl),?_⟩
    simp only [go_sem,List.map_cons,List.map_nil]
    apply hK
    clear hK K
    repeat refine nx ?_
    refine z10 fun K hK=>?_
    simp only [go_sem,hcl,hct]
    refine ⟨_,.given (hf:=h87) (hd:=rfl) (ha:=rfl),?_⟩
    simp only [go_sem,z13,hNl]
    apply hK
    clear hK K
    repeat (first | refine nx ?_ | (refine z10 fun K hK=>?_;simp only [go_sem];apply hK;clear hK K))
    obtain ⟨H,hH⟩:∃ H,H=ordG k (ordK k) N (C,b):=⟨_,rfl⟩
    have hH0:H 0=(C,b):=by rw [hH];rfl
    have hHs:∀ g,H (g + 1)=((takeG k (ordK k) g (H g).1 (getI N (g:Int))).1,(H g).2.set g (getI (H g).2 (g:Int) + (takeG k (ordK k) g (H g).1 (getI N (g:Int))).2)):=fun g=>by rw [hH];rfl
    have hHo:=fun g=>z835 (k:=k) (o:=ordK k) (needs:=N) (a:=(C,b)) (B:=2 ^ 40 * d) c1 a3 (by omega) hNo g
    rw [← hH] at hHo hnx
    dsimp only at hHo
    have hol:=z95 k
    have hom:∀ x ∈ ordK k,x<k.batches.length:=fun x hx=>z68 hx
    obtain ⟨o,ho⟩:∃ o,o=ordK k:=⟨_,rfl⟩
    rw [← ho] at hHs hol hom
    refine z15 (fun (g:Nat)=>[(47,.d (.i (g:Int)))]) (fun g=>[(1,some (.arr 3 1 (intRows (H g).1))),(29,some (.arr 3 1 (intRows (H g).2)))]) (fun g=>g≤k.allerg.length) (fun g=>k.allerg.length - g) 0 ?_ (Nat.zero_le _) ?_
    ·rw [hH0]
     simp only [go_sem]
     refine weA ?_ ?_ <;> simp
     all_goals first | done | rfl | trace_state
    ·intro g hg2
     obtain ⟨b1,b2,b3,b4,b5⟩:=hHo g
     have hnx2:=hHs g
     obtain ⟨⟨cur,B⟩,hHg⟩:∃ x,H g=x:=⟨_,rfl⟩
     rw [hHg] at b1 b2 b3 b4 b5 hnx2 ⊢
     dsimp only at b1 b2 b3 b4 b5 hnx2 ⊢
     simp only [go_sem]
     repeat (first | refine nx ?_ | (refine z10 fun K hK=>?_;simp only [go_sem];apply hK;clear hK K))
     refine z14 rfl (fun hb=>?_) (fun hb=>?_)
     ·have hltg:g<k.allerg.length:=by simpa using hb
      have hwg:IntKind.i64.wrap ((g:Int) + 1)=((g + 1:Nat):Int):=by rw [z17 (by omega)];simp
      have gn:=z33 (l:=N) (i:=g) (by omega)
      have hnr:0≤getI N (g:Int)∧getI N (g:Int)≤2 ^ 40:=z163 hNo (by decide) _
      obtain ⟨n,hn⟩:∃ n,n=getI N (g:Int):=⟨_,rfl⟩
      rw [← hn] at gn hnx2 hnr
      have hng:¬ ((g:Int)<0):=by omega
      have hlN:g<N.length:=by omega
      repeat (first | refine nx ?_ | (refine z10 fun K hK=>?_;simp only [go_sem,gn,hng,hlN];apply hK;clear hK K))
      rw [← ho]
      refine z15 (fun (q:Nat × List Int × Int)=>[(57,.d (.i (q.1:Int))),(13,.d (.i q.2.2))]) (fun q=>[(1,some (.arr 3 1 (intRows q.2.1)))]) (fun q=>q.1≤o.length∧(q.2.1,q.2.2)=(o.take q.1).foldl (takeStep k g) (cur,n)∧AmtOk q.2.1∧q.2.1.length=cur.length∧0≤q.2.2∧q.2.2≤2 ^ 40) (fun q=>o.length - q.1) (0,cur,n) ?_ ⟨Nat.zero_le _,rfl,b1,rfl,hnr.1,hnr.2⟩ ?_
      ·simp only [go_sem]
       refine weA ?_ ?_ <;> simp
       all_goals first | done | rfl | trace_state
      ·rintro ⟨j,A,m⟩ ⟨hj,hfold,hAo,hAl,hm0,hm1⟩
       dsimp only at hj hfold hAo hAl hm0 hm1
       simp only [go_sem]
       repeat (first | refine nx ?_ | (refine z10 fun K hK=>?_;simp only [go_sem];apply hK;clear hK K))
       refine z14 rfl (fun hb=>?_) (fun hb=>?_)
       ·have hltj:j<o.length:=by simpa using hb
        have hwj:IntKind.i64.wrap ((j:Int) + 1)=((j + 1:Nat):Int):=by rw [z17 (by omega)];simp
        have hnj:¬ ((j:Int)<0):=by omega
        obtain ⟨x,hx⟩:∃ x,o[j]?=some x:=⟨_,List.getElem?_eq_getElem hltj⟩
        have gx:=z102 hltj
        rw [List.getD,hx,Option.getD_some] at gx
        have hxb:=hom x (List.mem_of_getElem? hx)
        have gb:=z261 hxb
        rw [Batch.row] at gb
        have hnx3:¬ ((x:Int)<0):=by omega
        have hxA:x<A.length:=by omega
        have gA:=z33 hxA
        have hgA:=hAo.get (x:Int)
        have hst:(o.take (j + 1)).foldl (takeStep k g) (cur,n)=takeStep k g (A,m) x:=by rw [z78 _ _ _ _ _ hx,← hfold]
        have hso:=z107 (k:=k) (good:=g) (i:=x) (a:=(A,m)) hAo hm0
        by_cases hq:(batAt k x).good=(g:Int)
        ·have e:((batAt k x).good == (g:Int))=true:=by simp [hq]
         have e0:takeStep k g (A,m) x=(A.set x (getI A (x:Int) - min m (getI A (x:Int))),m - min m (getI A (x:Int))):=by rw [takeStep,if_pos hq]
         rw [e0] at hst hso
         dsimp only at hso
         have e1:IntKind.i64.wrap (getI A (x:Int) - min m (getI A (x:Int)))=getI A (x:Int) - min m (getI A (x:Int)):=z17 (by omega)
         have e2:IntKind.i64.wrap (m - min m (getI A (x:Int)))=m - min m (getI A (x:Int)):=z17 (by omega)
         have su:=z69 A x (getI A (x:Int) - min m (getI A (x:Int)))
         obtain ⟨v2,hv⟩:∃ v2,v2=getI A (x:Int):=⟨_,rfl⟩
         rw [← hv] at gA e1 e2 su hst hso hgA
         obtain ⟨t,ht⟩:∃ t,t=min m v2:=⟨_,rfl⟩
         rw [← ht] at e1 e2 su hst hso
         have ht':min m v2=t:=ht.symm
         repeat (first | refine z12 rfl ?_ | refine z11 rfl ?_ | refine nx ?_ | (refine z10 fun K hK=>?_;simp only [go_sem,gx,hnj,hltj,gb,hnx3,e];apply hK;clear hK K))
         repeat (first | refine nx ?_ | (refine z10 fun K hK=>?_;simp only [go_sem,gx,hnj,hltj,gb,hnx3,e,gA,hxA,ht',e1,e2,su,hwj];apply hK;clear hK K))
         refine ⟨rfl,(j + 1,A.set x (v2 - t),m - t),?_,⟨hltj,hst.symm,hso.1,by rw [hso.2.1];exact hAl,hso.2.2.1,by dsimp only;omega⟩,by dsimp only;omega⟩
         refine weA ?_ ?_ <;> simp
         all_goals first | done | rfl | trace_state
        ·have e:((batAt k x).good == (g:Int))=false:=by simpa using hq
         have e0:takeStep k g (A,m) x=(A,m):=by rw [takeStep,if_neg hq]
         rw [e0] at hst
         repeat (first | refine z12 rfl ?_ | refine z11 rfl ?_ | refine nx ?_ | (refine z10 fun K hK=>?_;simp only [go_sem,gx,hnj,hltj,gb,hnx3,e,hwj];apply hK;clear hK K))
         refine ⟨rfl,(j + 1,A,m),?_,⟨hltj,hst.symm,hAo,hAl,hm0,hm1⟩,by dsimp only;omega⟩
         refine weA ?_ ?_ <;> simp
         all_goals first | done | rfl | trace_state
       ·have he:j=o.length:=by (have:¬ j<o.length:=by simpa using hb);omega
        subst he
        rw [List.take_length] at hfold
        have hGt:takeG k o g cur n=(A,m):=hfold.symm
        rw [hGt] at hnx2
        dsimp only at hnx2
        have hgB:g<B.length:=by omega
        have gB:=z33 hgB
        have hBr:0≤getI B (g:Int)∧getI B (g:Int)≤2 ^ 40 * d + 2 ^ 40:=z163 b3 (by omega) _
        have eB:IntKind.i64.wrap (getI B (g:Int) + m)=getI B (g:Int) + m:=z17 (by omega)
        have suB:=z69 B g (getI B (g:Int) + m)
        repeat (first | refine nx ?_ | (refine z10 fun K hK=>?_;simp only [go_sem,gB,hgB,hng,eB,suB,hwg];apply hK;clear hK K))
        refine ⟨rfl,g + 1,?_,hltg,by omega⟩
        rw [hnx2]
        refine weA ?_ ?_ <;> simp
        all_goals first | done | rfl | trace_state
     ·have he:g=k.allerg.length:=by (have:¬ g<k.allerg.length:=by simpa using hb);omega
      subst he
      rw [hHg] at hnx
      dsimp only at hnx
      repeat (first | refine nx ?_ | (refine z10 fun K hK=>?_;simp only [go_sem,hw];apply hK;clear hK K))
      refine ⟨rfl,d + 1,?_,hlt,by omega⟩
      rw [hnx]
      simp only [go_sem,lardRow]
      refine weA ?_ ?_ <;> simp
      all_goals first | done | rfl | exact ⟨rfl,rfl⟩ | trace_state
   ·have he:d=M.length:=by (have:¬ d<M.length:=by simpa using hb);omega
    subst he
    rw [hFd]
    repeat (first | refine nx ?_ | (refine z10 fun K hK=>?_;simp only [go_sem];apply hK;clear hK K))
    simp only [go_sem]
 ·rw [if_neg h0]
  have hz:(openK k M != 0)=true:=by simpa using h0
  obtain ⟨e,he⟩:∃ e,e=openK k M:=⟨_,rfl⟩
  rw [← he] at h84 hz ⊢
  refine z18 102 Try.call17 Try.func17 rfl (by decide) fun J=>?_
  simp only [go_sem,St.start,Try.ntmps17,Try.results17,Kitchen.cells]
  repeat (first | refine z12 rfl ?_ | refine z11 rfl ?_ | refine nx ?_ | (refine z10 fun K hK=>?_;simp only [go_sem,hz];(repeat (first | (refine ⟨_,.lent (hf:=h84) (hd:=rfl) (hr:=rfl),?_⟩;simp only [go_sem,hz]) | (refine ⟨_,.given (hf:=h84) (hd:=rfl) (ha:=rfl),?_⟩;simp only [go_sem,hz])));apply hK;clear hK K))
  simp only [go_sem]
end Go.Ab
namespace Go.Ab
open Go.RowKit Go.Proofs
set_option maxHeartbeats 8000000
set_option maxRecDepth 20000
attribute [local irreducible] WalkL Walk
def daysP (h:Int):Int:=IntKind.i64.wrap ((IntKind.i64.wrap (h + 23)).tdiv 24)
def enoughP (k:Kitchen) (M:List (List Int)) (s:Supply) (c n:Int):Int × Bool × Int :=
 if openK k M=0 then (if (nextP s c n).2.2=0 then (daysP (nextP s c n).1,decide (daysP (nextP s c n).1≤(mostK k M:Int)),0) else (0,false,(nextP s c n).2.2)) else (0,false,openK k M)
theorem z1050 (a b:Int):Fn Try.prog 76 [.i a,.i b] (.agg [.i a,.i b]):=by
 refine z18 8 Try.call76 Try.func76 rfl (by decide) fun J=>?_
 simp only [go_sem,St.start,Try.ntmps76,Try.results76]
 repeat (first | refine nx ?_ | (refine z10 fun K hK=>?_;simp only [go_sem];apply hK;clear hK K))
 simp only [go_sem]
def exK:Kitchen:=⟨[1,0],[⟨0,1000,1⟩,⟨0,500,3⟩,⟨1,2000,2⟩],[⟨[200,0]⟩,⟨[0,300]⟩],List.replicate 3 [⟨0,⟨2,3⟩⟩,⟨1,⟨1,1⟩⟩]⟩
def exM:List (List Int):=[[0,1],[0,1],[0,1]]
theorem z1096:Fn Try.prog 39 [] (.tup [.agg exK.cells,.sl (listRows exM)]):=by
 have h1:=z1050 2 3
 have h2:=z1050 1 1
 refine z18 27 Try.call39 Try.func39 rfl (by decide) fun J=>?_
 simp only [go_sem,St.start,Try.ntmps39,Try.results39]
 repeat (first | refine nx ?_ | (refine z10 fun K hK=>?_;simp only [go_sem];(repeat (first | (refine ⟨_,.lent (hf:=h1) (hd:=rfl) (hr:=rfl),?_⟩;simp only [go_sem]) | (refine ⟨_,.lent (hf:=h2) (hd:=rfl) (hr:=rfl),?_⟩;simp only [go_sem]) | (refine ⟨_,.given (hf:=h1) (hd:=rfl) (ha:=rfl),?_⟩;simp only [go_sem]) | (refine ⟨_,.given (hf:=h2) (hd:=rfl) (ha:=rfl),?_⟩;simp only [go_sem])));apply hK;clear hK K))
 simp only [go_sem]
 rfl
theorem z307:KitSmall exK:=⟨by decide,by decide,by decide,by intro l hl;simp [exK] at hl;rcases hl with rfl | rfl <;> decide,by decide,by intro l hl;simp [exK] at hl;subst hl;decide⟩
theorem z945:openK exK exM=0:=by decide +kernel
theorem z871:orderK exK exM=[300,0]:=by decide +kernel
end Go.Ab
namespace Go.Ab
open Go.RowKit Go.Proofs
set_option maxHeartbeats 8000000
set_option maxRecDepth 20000
attribute [local irreducible] WalkL Walk
def suitTo7 (k:Kitchen) (no:Int) (m:Nat):List Int:=((List.range m).filter fun (i:Nat)=>suitsB k (i:Int) no).map fun (i:Nat)=>(i:Int)
def suitL (k:Kitchen) (no:Int):List Int:=suitTo7 k no k.dishes.length
theorem z766 {k:Kitchen} {no:Int} {i:Nat} (h:suitsB k (i:Int) no=true):suitTo7 k no (i + 1)=suitTo7 k no i++[(i:Int)]:=by
 simp [suitTo7,List.range_succ,List.filter_append,h]
theorem z823 {k:Kitchen} {no:Int} {i:Nat} (h:suitsB k (i:Int) no=false):suitTo7 k no (i + 1)=suitTo7 k no i:=by
 simp [suitTo7,List.range_succ,List.filter_append,h]
theorem z222 (k:Kitchen) (no:Int) (m:Nat):(suitTo7 k no m).length≤m:=by
 have:=List.length_filter_le (fun (i:Nat)=>suitsB k (i:Int) no) (List.range m)
 simpa [suitTo7] using this
theorem z899 {k:Kitchen} {no d:Int} (h:d ∈ suitL k no):∃ n:Nat,d=n∧n<k.dishes.length∧suitsB k (n:Int) no=true:=by
 obtain ⟨n,hn,rfl⟩:=List.mem_map.1 h
 obtain ⟨h1,h2⟩:=List.mem_filter.1 hn
 exact ⟨n,rfl,List.mem_range.1 h1,h2⟩
theorem z1052 (k:Kitchen) (hg:KitGood k) (no:Int):FnS Try.prog 63 [.agg k.cells,.i no] 3 1 (intRows (suitL k no)):=by
 have hd:=hg.dishes
 unfold suitL
 refine z269 23 Try.call63 Try.func63 rfl (by decide) fun J=>?_
 simp only [go_sem,St.start,Try.ntmps63,Try.results63,Kitchen.cells]
 repeat (first | refine nx ?_ | (refine z10 fun K hK=>?_;simp only [go_sem];apply hK;clear hK K))
 refine z15 (fun (i:Nat)=>[(10,.d (.i (i:Int))),(4,.own 20)]) (fun i=>[(20,some (.arr 3 1 (intRows (suitTo7 k no i))))]) (fun i=>i≤k.dishes.length) (fun i=>k.dishes.length - i) 0 ?_ (Nat.zero_le _) ?_
 ·simp only [go_sem]
  refine z63 [20] ?_ ?_ rfl rfl <;> simp [lessT,lessM,lessB,AV.less,suitTo7,intRows]
 ·intro i hi
  simp only [go_sem]
  repeat (first | refine nx ?_ | (refine z10 fun K hK=>?_;simp only [go_sem];apply hK;clear hK K))
  refine z14 rfl (fun hb=>?_) (fun hb=>?_)
  ·have hlt:i<k.dishes.length:=by simpa using hb
   have hw:IntKind.i64.wrap ((i:Int) + 1)=((i + 1:Nat):Int):=by rw [z17 (by omega)];simp
   have h86:=z1049 k hg i no hlt
   rw [Kitchen.cells] at h86
   have hl:=z222 k no i
   obtain ⟨L,hL⟩:∃ L,L=suitTo7 k no i:=⟨_,rfl⟩
   rw [← hL] at hl ⊢
   have hn:L.length + 1≤549755813888:=by omega
   cases q:suitsB k (i:Int) no
   ·rw [q] at h86
    have e:=z823 q
    rw [← hL] at e
    repeat (first | refine z12 rfl ?_ | refine z11 rfl ?_ | refine nx ?_ | (refine z10 fun K hK=>?_;simp only [go_sem,hw];(repeat (first | (refine ⟨_,.lent (hf:=h86) (hd:=rfl) (hr:=rfl),?_⟩;simp only [go_sem,hw]) | (refine ⟨_,.given (hf:=h86) (hd:=rfl) (ha:=rfl),?_⟩;simp only [go_sem,hw])));apply hK;clear hK K))
    refine ⟨rfl,i + 1,?_,hlt,by omega⟩
    rw [e]
    refine weA ?_ ?_ <;> simp
    all_goals first | done | rfl | trace_state
   ·rw [q] at h86
    have e:=z766 q
    rw [← hL] at e
    have s1:intRows L++[[.i (i:Int)]]=intRows (suitTo7 k no (i + 1)):=by rw [e];simp [intRows]
    repeat (first | refine z12 rfl ?_ | refine z11 rfl ?_ | refine nx ?_ | (refine z10 fun K hK=>?_;simp only [go_sem,hn,s1,hw];(repeat (first | (refine ⟨_,.lent (hf:=h86) (hd:=rfl) (hr:=rfl),?_⟩;simp only [go_sem,hn,s1,hw]) | (refine ⟨_,.given (hf:=h86) (hd:=rfl) (ha:=rfl),?_⟩;simp only [go_sem,hn,s1,hw])));apply hK;clear hK K))
    refine ⟨rfl,i + 1,?_,hlt,by omega⟩
    refine weA ?_ ?_ <;> simp
    all_goals first | done | rfl | trace_state
  ·have he:i=k.dishes.length:=by (have:¬ i<k.dishes.length:=by simpa using hb);omega
   subst he
   repeat (first | refine nx ?_ | (refine z10 fun K hK=>?_;simp only [go_sem];apply hK;clear hK K))
   simp only [go_sem]
end Go.Ab
namespace Go.Ab
open Go.RowKit Go.Proofs
set_option maxHeartbeats 16000000
set_option maxRecDepth 20000
attribute [local irreducible] WalkL Walk
def addL:List (List Int)→List Int→List (List Int)
 | [],pre=>[pre]
 | S::gs,pre=>S.flatMap fun d=>addL gs (pre++[d])
def menuRows (l:List (List Int)):List (List DV):=l.map fun m=>[.sl (intRows m)]
def suitDay (k:Kitchen) (dy:Nat):List (List Int):=(k.days.getD dy []).map fun g=>suitL k g.no
def cycCaps98 (k:Kitchen) (dy l:Nat):List (Option DV):=[some (.ptr k.cells 0),some (.ptr [.i (dy:Int)] 0),some (.ptr [.yld l] 0),none]
theorem z1025 (k:Kitchen) (dy l:Nat) (hd:dy<k.days.length) (pre:List Int) (hne:pre≠[]) (hl:pre.length=(k.days.getD dy []).length) (hsm:pre.length<2 ^ 20) (D:DV) :
  YFn Try.prog 98 l [.arrP 3 1 (intRows pre)] [.vh 0 pre.length,.d (.ptr k.cells 0),.d (.ptr [.i (dy:Int)] 0),.d (.ptr [.yld l] 0),.d D] (menuRows [pre]):=by
 have h77:=z999 pre (by omega)
 have g1:=z311 hd
 have n1:¬ ((dy:Int)<0):=by omega
 have hlb:((pre.length:Int) == ((k.days.getD dy []).length:Int))=true:=by simp [hl]
 have hcl:k.cells.length=4:=rfl
 have k3:k.cells[3]?=some (.sl (dayRows k.days)):=rfl
 refine z262 49 Try.call98 Try.func98 rfl (by decide) [0] rfl (by kernel_rfl) fun J ITEMS hG hit=>?_
 simp only [go_sem,St.startG,Try.ntmps98,Try.results98,List.map_cons,List.map_nil,List.range_succ,  ]
 repeat (first | refine nx ?_ | (refine z10 fun K hK=>?_;simp only [go_sem,g1,n1,hlb,k3,hcl];apply hK;clear hK K))
 refine z12 rfl ?_
 refine z275 ?_
 refine z246 hG [] 3 (by kernel_rfl) (by kernel_rfl) (by kernel_rfl) (by decide) fun K hK=>?_
 simp only [go_sem]
 refine ⟨_,.fnS (hdst:=rfl) (hf:=h77) (hd:=by simp [reifyAll,allSome,reify,leaf,deep,z13]) (hr:=.inl (z39 _)) (hfr:=rfl),?_⟩
 simp only [go_sem]
 refine ⟨by kernel_rfl,?_⟩
 refine ⟨rfl,0,[.sl (intRows pre)],rfl,rfl,rfl,hit 0 _ rfl,?_,?_⟩
 ·simp only [go_sem]
  refine hK _ _ ?_
  clear hK K
  repeat (first | refine nx ?_ | (refine z10 fun K hK=>?_;simp only [go_sem];apply hK;clear hK K))
  simp only [go_sem]
  rfl
 ·simp only [go_sem]
  refine hK _ _ ?_
  clear hK K
  repeat (first | refine nx ?_ | (refine z10 fun K hK=>?_;simp only [go_sem];apply hK;clear hK K))
  simp only [go_sem]
def cntF (F:Int→List (List Int)) (S:List Int) (j:Nat):Nat:=((S.take j).flatMap F).length
theorem z312 {F:Int→List (List Int)} {S:List Int} {j:Nat} {d:Int} (h:S[j]?=some d):cntF F S (j + 1)=cntF F S j + (F d).length:=by
 simp [cntF,List.take_add_one,h]
theorem z995 {F:Int→List (List Int)} {S:List Int} {j:Nat} {d:Int} (h:S[j]?=some d) {i:Nat} {m:List Int} (hi:(F d)[i]?=some m):(S.flatMap F)[cntF F S j + i]?=some m:=by
 have hlt:=(List.getElem?_eq_some_iff.1 h).1
 have e:S.flatMap F=(S.take j).flatMap F++(F d++(S.drop (j + 1)).flatMap F):=by
  conv=>lhs;rw [← List.take_append_drop j S,List.drop_eq_getElem_cons hlt]
  have:S[j]=d:=by rw [List.getElem?_eq_getElem hlt] at h;simpa using h
  simp [this]
 rw [e,List.getElem?_append_right (by simp [cntF]),show cntF F S j + i - ((S.take j).flatMap F).length=i by simp [cntF],List.getElem?_append_left (List.getElem?_eq_some_iff.1 hi).1]
 exact hi
theorem z59 (l:List (List Int)):(menuRows l).length=l.length:=by simp [menuRows]
theorem z453 {F:Int→List (List Int)} {S:List Int} {j:Nat} {d:Int} (h:S[j]?=some d) {i:Nat} {row:List DV} (hi:(menuRows (F d))[i]?=some row):(menuRows (S.flatMap F))[cntF F S j + i]?=some row:=by
 simp only [menuRows,List.getElem?_map,Option.map_eq_some_iff] at hi ⊢
 obtain ⟨m,hm,rfl⟩:=hi
 exact ⟨m,z995 h hm,rfl⟩
theorem z454 (F:Int→List (List Int)) (S:List Int):cntF F S S.length=(S.flatMap F).length:=by simp [cntF]
theorem z1026 (k:Kitchen) (hg:KitGood k) (dy l:Nat) (hd:dy<k.days.length) (pre:List Int) (hne:pre≠[]) (r:Nat) (gs:List (List Int)) (hl:pre.length<(k.days.getD dy []).length) (hsm:pre.length<2 ^ 20)
  (ih:∀ d:Int,YFn Try.prog 98 l [.arrP 3 1 (intRows (pre++[d]))] [.vh 0 (pre.length + 1),.d (.ptr k.cells 0),.d (.ptr [.i (dy:Int)] 0),.d (.ptr [.yld l] 0),.d (cycD 98 (cycCaps98 k dy l) r)] (menuRows (addL gs (pre++[d])))) :
  YFn Try.prog 98 l [.arrP 3 1 (intRows pre)] [.vh 0 pre.length,.d (.ptr k.cells 0),.d (.ptr [.i (dy:Int)] 0),.d (.ptr [.yld l] 0),.d (cycD 98 (cycCaps98 k dy l) (r + 1))] (menuRows (addL (suitL k (dinAt k dy pre.length).no::gs) pre)):=by
 have h63:=z1052 k hg (dinAt k dy pre.length).no
 have g1:=z311 hd
 have g2:=z566 hl
 have n1:¬ ((dy:Int)<0):=by omega
 have n2:¬ ((pre.length:Int)<0):=by omega
 have hlb:((pre.length:Int) == ((k.days.getD dy []).length:Int))=false:=beq_eq_false_iff_ne.2 (by omega)
 obtain ⟨no,hno⟩:∃ no,no=(dinAt k dy pre.length).no:=⟨_,rfl⟩
 rw [Diners.row] at g2
 rw [← hno] at h63 g2 ⊢
 have hcl:k.cells.length=4:=rfl
 have hct:k.cells.take 4=k.cells:=rfl
 have k3:k.cells[3]?=some (.sl (dayRows k.days)):=rfl
 obtain ⟨S,hS⟩:∃ S,S=suitL k no:=⟨_,rfl⟩
 have hSl:S.length≤5:=by have h1:=z222 k no k.dishes.length;have h2:=hg.dishes;rw [hS,suitL];omega
 rw [← hS] at h63 ⊢
 obtain ⟨D,hD⟩:∃ D,D=cycD 98 (cycCaps98 k dy l) r:=⟨_,rfl⟩
 have hDs:cycD 98 (cycCaps98 k dy l) (r + 1)=.ptr [.fn 98 [.ptr k.cells 0,.ptr [.i (dy:Int)] 0,.ptr [.yld l] 0,D]] 0:=by rw [hD];rfl
 rw [hDs]
 rw [← hD] at ih
 obtain ⟨F,hF⟩:∃ F,F=fun d:Int=>addL gs (pre++[d]):=⟨_,rfl⟩
 have hit0:addL (S::gs) pre=S.flatMap F:=by rw [hF];rfl
 have ih:∀ d:Int,YFn Try.prog 98 l [.arrP 3 1 (intRows (pre++[d]))] [.vh 0 (pre.length + 1),.d (.ptr k.cells 0),.d (.ptr [.i (dy:Int)] 0),.d (.ptr [.yld l] 0),.d D] (menuRows (F d)):=by rw [hF];exact ih
 rw [hit0]
 have hpl:pre.length≤549755813887:=by omega
 have hpn:0<pre.length:=List.length_pos_iff.2 hne
 have hap:∀ d:Int,intRows pre++[[.i d]]=intRows (pre++[d]):=fun d=>by simp [intRows]
 have hfew:∀ d:Int,(intRows (pre++[d])).take pre.length=intRows pre:=fun d=>by simp [intRows]
 have hlen:∀ d:Int,(pre++[d]).length=pre.length + 1:=fun d=>by simp
 refine z262 49 Try.call98 Try.func98 rfl (by decide) [0] rfl (by kernel_rfl) fun J ITEMS hG hit=>?_
 simp only [go_sem,St.startG,Try.ntmps98,Try.results98,List.map_cons,List.map_nil,List.range_succ,  ]
 refine z585 49 rfl ?_ ?_
 ·simp only [go_sem]
  repeat (first | refine nx ?_ | (refine z10 fun K hK=>?_;simp only [go_sem,g1,n1,hlb,k3,hcl];apply hK;clear hK K))
  refine z11 rfl ?_
  repeat (first | refine nx ?_ | (refine z10 fun K hK=>?_;simp only [go_sem];apply hK;clear hK K))
  refine z16 (by kernel_rfl) (by kernel_rfl) fun K hK=>?_
  simp only [go_sem,g1,n1,g2,n2,k3,hcl,hct]
  refine ⟨_,.fnS (hdst:=rfl) (hf:=h63) (hd:=rfl) (hr:=.inl (z39 _)) (hfr:=rfl),?_⟩
  simp only [go_sem]
  refine ⟨by kernel_rfl,hK _ ?_⟩
  clear hK K
  repeat (first | refine nx ?_ | (refine z10 fun K hK=>?_;simp only [go_sem];apply hK;clear hK K))
  refine z70 [9,10,11,12,13,14,15,16,17,18,23,24,25,26,27,28,29,30,31,32,33,34] ?_ ?_
  ·simp only [go_sem]
   refine weA ?_ ?_ <;> simp
  simp only [go_sem]
  refine z180 (fun (j:Nat)=>[(37,.d (.i (j:Int)))]) (fun _=>[]) (fun kk j=>j≤S.length∧kk=some (cntF F S j)) (fun j=>S.length - j) 0 ?_ ⟨Nat.zero_le _,rfl⟩ ?_
  ·simp only [go_sem]
   refine weA ?_ ?_ <;> simp
   all_goals first | done | rfl | trace_state
  ·rintro kk j ⟨hj,rfl⟩
   simp only [go_sem]
   repeat (first | refine nx ?_ | (refine z10 fun K hK=>?_;simp only [go_sem];apply hK;clear hK K))
   refine z14 rfl (fun hb=>?_) (fun hb=>?_)
   ·have hlt:j<S.length:=by simpa using hb
    have hw:IntKind.i64.wrap ((j:Int) + 1)=((j + 1:Nat):Int):=by rw [z17 (by omega)];simp
    obtain ⟨d,hd⟩:∃ d,S[j]?=some d:=⟨_,List.getElem?_eq_getElem hlt⟩
    have gS:=z35 hd
    have hnj:¬ ((j:Int)<0):=by omega
    repeat (first | refine nx ?_ | (refine z10 fun K hK=>?_;simp only [go_sem,gS,hlt,hnj];apply hK;clear hK K))
    refine z70 [38,39,40] ?_ ?_
    ·simp only [go_sem]
     refine weA ?_ ?_ <;> simp
    simp only [go_sem]
    refine z116 hG [46] 5 (by kernel_rfl) (by kernel_rfl) (by kernel_rfl) (by decide) (fun m=>⟨[.vh 49 pre.length,.d (.ptr k.cells 0),.d (.ptr [.i (dy:Int)] 0),.d (.ptr [.yld l] 0),.d (.ptr [.fn 98 [.ptr k.cells 0,.ptr [.i (dy:Int)] 0,.ptr [.yld l] 0,D]] 0),.undef,.undef,.undef,.d (.i d)]++List.replicate 26 .undef ++
      [.own 35,.d (.i (S.length:Int)),.d (.i (j:Int)),.undef,.undef,.undef,sel (m 0) (.fn 98 [.ptr k.cells 0,.ptr [.i (dy:Int)] 0,.ptr [.yld l] 0,D]),bif m 1 then .undef else .vh 49 pre.length,sel (m 2) (.i d),bif m 3 then .undef else .own 44,bif m 4 then .undef else .own 45,.undef,.undef,.undef],
     List.replicate 35 none++[some (.arr 3 1 (intRows S))]++List.replicate 8 none++[stB (m 3) true (.arr 3 1 [[.i d]]) (.arr 3 1 []),stB (m 4) true (.arr 3 1 (intRows (pre++[d]))) (.arr 3 1 []),none,none,none,some (.arr 3 1 (intRows pre))]⟩) ?_ ?_ (z193 45 _ (by intro e z;simp [stB,intRows])) ?_
    ·simp only [go_sem]
    ·refine ⟨?_,?_,?_,?_,?_,trivial⟩
     all_goals
      intro m hm hd hc
      simp only [closedM,depsM,Region.binds,true_and,and_true,Nat.zero_add,Nat.reduceAdd,reduceCtorEq,forall_const] at hc hd
      cases h1:m 1 <;> cases h3:m 3 <;> cases h4:m 4 <;> (try simp [h1,h3,h4] at hc hd hm)
     all_goals
      cases h0:m 0 <;> cases h2:m 2 <;> (try simp [h0,h1,h2,h3,h4] at hc hd hm)
     all_goals
      refine ⟨rfl,rfl,?_⟩
      simp only [go_sem,hm,hd,h0,h1,h2,h3,h4,hpl,hpn,hap]
    ·intro K hK
     simp only [go_sem,z13,hlen d]
     refine ⟨cntF F S j,rfl,?_⟩
     simp only [go_sem]
     refine ⟨[45],_,menuRows (F d),by decide,rfl,ih d,fun i row h=>hit _ _ (z453 hd h),?_,?_⟩
     ·refine hK _ _ ?_
      clear hK K
      repeat (first | refine nx ?_ | (refine z10 fun K hK=>?_;simp only [go_sem];apply hK;clear hK K))
      refine z11 rfl ?_
      repeat (first | refine nx ?_ | (refine z10 fun K hK=>?_;simp only [go_sem,hw];apply hK;clear hK K))
      refine ⟨j + 1,?_,⟨hlt,by rw [z312 hd,z59]⟩,by omega⟩
      refine weA ?_ ?_ <;> simp
      all_goals first | done | rfl | trace_state
     ·refine hK _ _ ?_
      clear hK K
      repeat (first | refine nx ?_ | (refine z10 fun K hK=>?_;simp only [go_sem];apply hK;clear hK K))
      refine z12 rfl ?_
      refine z48 (z193 49 _ (by intro e z;simp [intRows,hne])) ?_
      simp only [go_sem]
      repeat (first | refine nx ?_ | (refine z10 fun K hK=>?_;simp only [go_sem];apply hK;clear hK K))
      simp only [go_sem]
   ·have he:j=S.length:=by (have:¬ j<S.length:=by simpa using hb);omega
    subst he
    refine z48 (z193 49 _ (by intro e z;simp [intRows,hne])) ?_
    simp only [go_sem]
    repeat (first | refine nx ?_ | (refine z10 fun K hK=>?_;simp only [go_sem];apply hK;clear hK K))
    simp only [go_sem]
    exact (z454 F S).trans (z59 _).symm
 ·simp only [go_sem]
  repeat (first | refine nx ?_ | (refine z10 fun K hK=>?_;simp only [go_sem,g1,n1,hlb,k3,hcl];apply hK;clear hK K))
  refine z11 rfl ?_
  repeat (first | refine nx ?_ | (refine z10 fun K hK=>?_;simp only [go_sem];apply hK;clear hK K))
  refine z16 (by kernel_rfl) (by kernel_rfl) fun K hK=>?_
  simp only [go_sem,g1,n1,g2,n2,k3,hcl,hct]
  refine ⟨_,.fnS (hdst:=rfl) (hf:=h63) (hd:=rfl) (hr:=.inl (z39 _)) (hfr:=rfl),?_⟩
  simp only [go_sem]
  refine ⟨by kernel_rfl,hK _ ?_⟩
  clear hK K
  repeat (first | refine nx ?_ | (refine z10 fun K hK=>?_;simp only [go_sem];apply hK;clear hK K))
  refine z70 [9,10,11,12,13,14,15,16,17,18,23,24,25,26,27,28,29,30,31,32,33,34] ?_ ?_
  ·simp only [go_sem]
   refine weA ?_ ?_ <;> simp
  simp only [go_sem]
  refine z180 (fun (j:Nat)=>[(37,.d (.i (j:Int)))]) (fun _=>[]) (fun kk j=>j≤S.length∧kk=some (cntF F S j)) (fun j=>S.length - j) 0 ?_ ⟨Nat.zero_le _,rfl⟩ ?_
  ·simp only [go_sem]
   refine weA ?_ ?_ <;> simp
   all_goals first | done | rfl | trace_state
  ·rintro kk j ⟨hj,rfl⟩
   simp only [go_sem]
   repeat (first | refine nx ?_ | (refine z10 fun K hK=>?_;simp only [go_sem];apply hK;clear hK K))
   refine z14 rfl (fun hb=>?_) (fun hb=>?_)
   ·have hlt:j<S.length:=by simpa using hb
    have hw:IntKind.i64.wrap ((j:Int) + 1)=((j + 1:Nat):Int):=by rw [z17 (by omega)];simp
    obtain ⟨d,hd⟩:∃ d,S[j]?=some d:=⟨_,List.getElem?_eq_getElem hlt⟩
    have gS:=z35 hd
    have hnj:¬ ((j:Int)<0):=by omega
    repeat (first | refine nx ?_ | (refine z10 fun K hK=>?_;simp only [go_sem,gS,hlt,hnj];apply hK;clear hK K))
    refine z70 [38,39,40] ?_ ?_
    ·simp only [go_sem]
     refine weA ?_ ?_ <;> simp
    simp only [go_sem]
    refine z116 hG [46] 5 (by kernel_rfl) (by kernel_rfl) (by kernel_rfl) (by decide) (fun m=>⟨[.vc 49 pre.length,.d (.ptr k.cells 0),.d (.ptr [.i (dy:Int)] 0),.d (.ptr [.yld l] 0),.d (.ptr [.fn 98 [.ptr k.cells 0,.ptr [.i (dy:Int)] 0,.ptr [.yld l] 0,D]] 0),.undef,.undef,.undef,.d (.i d)]++List.replicate 26 .undef ++
      [.own 35,.d (.i (S.length:Int)),.d (.i (j:Int)),.undef,.undef,.undef,sel (m 0) (.fn 98 [.ptr k.cells 0,.ptr [.i (dy:Int)] 0,.ptr [.yld l] 0,D]),bif m 1 then .undef else .vc 49 pre.length,sel (m 2) (.i d),bif m 3 then .undef else .own 44,bif m 4 then .undef else .vh 49 (pre.length + 1),.undef,.undef,.undef],
     List.replicate 35 none++[some (.arr 3 1 (intRows S))]++List.replicate 8 none++[stB (m 3) true (.arr 3 1 [[.i d]]) (.arr 3 1 []),none,none,none,none,stB false (m 4) (.arrP 3 1 (intRows pre)) (.arrP 3 1 (intRows (pre++[d])))]⟩) ?_ ?_ (Weak.refl _) ?_
    ·simp only [go_sem]
    ·refine ⟨?_,?_,?_,?_,?_,trivial⟩
     all_goals
      intro m hm hd hc
      simp only [closedM,depsM,Region.binds,true_and,and_true,Nat.zero_add,Nat.reduceAdd,reduceCtorEq,forall_const] at hc hd
      cases h1:m 1 <;> cases h3:m 3 <;> cases h4:m 4 <;> (try simp [h1,h3,h4] at hc hd hm)
     all_goals
      cases h0:m 0 <;> cases h2:m 2 <;> (try simp [h0,h1,h2,h3,h4] at hc hd hm)
     all_goals
      refine ⟨rfl,rfl,?_⟩
      simp only [go_sem,hm,hd,h0,h1,h2,h3,h4,hpl,hpn,hap]
    ·intro K hK
     simp only [go_sem,z13,hlen d]
     refine ⟨cntF F S j,rfl,?_⟩
     simp only [go_sem]
     refine ⟨[49],_,menuRows (F d),by decide,rfl,ih d,fun i row h=>hit _ _ (z453 hd h),?_,?_⟩
     ·refine hK _ _ ?_
      clear hK K
      repeat (first | refine nx ?_ | (refine z10 fun K hK=>?_;simp only [go_sem];apply hK;clear hK K))
      refine z11 rfl ?_
      repeat (first | refine nx ?_ | (refine z10 fun K hK=>?_;simp only [go_sem,hw];apply hK;clear hK K))
      refine ⟨j + 1,?_,⟨hlt,by rw [z312 hd,z59]⟩,by omega⟩
      refine Weak.trans (z354 49 pre.length _) ?_
      simp only [go_sem,hfew d]
      refine weA ?_ ?_ <;> simp
      all_goals first | done | rfl | trace_state
     ·refine hK _ _ ?_
      clear hK K
      repeat (first | refine nx ?_ | (refine z10 fun K hK=>?_;simp only [go_sem];apply hK;clear hK K))
      refine z12 rfl ?_
      refine z48 (z354 49 pre.length _) ?_
      simp only [go_sem,hfew d]
      repeat (first | refine nx ?_ | (refine z10 fun K hK=>?_;simp only [go_sem];apply hK;clear hK K))
      simp only [go_sem]
   ·have he:j=S.length:=by (have:¬ j<S.length:=by simpa using hb);omega
    subst he
    repeat (first | refine nx ?_ | (refine z10 fun K hK=>?_;simp only [go_sem];apply hK;clear hK K))
    simp only [go_sem]
    exact (z454 F S).trans (z59 _).symm
end Go.Ab
namespace Go.Ab
open Go.RowKit Go.Proofs
set_option maxHeartbeats 16000000
set_option maxRecDepth 20000
attribute [local irreducible] WalkL Walk
theorem z671 (d:Int):[[DV.i d]]=intRows [d]:=rfl
theorem z997 (k:Kitchen) (dy l:Nat) (hd:dy<k.days.length) (hl:(k.days.getD dy []).length=0) (D:DV) :
  YFn Try.prog 98 l [] [.nil,.d (.ptr k.cells 0),.d (.ptr [.i (dy:Int)] 0),.d (.ptr [.yld l] 0),.d D] (menuRows [[]]):=by
 have h77:=z999 [] (by decide)
 have e0:intRows []=[]:=rfl
 rw [e0] at h77
 have g1:=z311 hd
 have n1:¬ ((dy:Int)<0):=by omega
 have hlb:((0:Int) == ((k.days.getD dy []).length:Int))=true:=by rw [hl];rfl
 have hcl:k.cells.length=4:=rfl
 have k3:k.cells[3]?=some (.sl (dayRows k.days)):=rfl
 refine z262 49 Try.call98 Try.func98 rfl (by decide) [] rfl (by kernel_rfl) fun J ITEMS hG hit=>?_
 simp only [go_sem,St.startG,Try.ntmps98,Try.results98,List.map_cons,List.map_nil,List.range_succ,  ]
 repeat (first | refine nx ?_ | (refine z10 fun K hK=>?_;simp only [go_sem,g1,n1,hlb,k3,hcl,List.length_nil,Int.natCast_zero];apply hK;clear hK K))
 refine z12 rfl ?_
 refine z275 ?_
 refine z246 hG [] 3 (by kernel_rfl) (by kernel_rfl) (by kernel_rfl) (by decide) fun K hK=>?_
 simp only [go_sem]
 refine ⟨_,.fnS (hdst:=rfl) (hf:=h77) (hd:=rfl) (hr:=.inr rfl) (hfr:=rfl),?_⟩
 simp only [go_sem]
 refine ⟨by kernel_rfl,?_⟩
 refine ⟨rfl,0,[.sl []],rfl,rfl,rfl,hit 0 _ rfl,?_,?_⟩
 ·simp only [go_sem]
  refine hK _ _ ?_
  clear hK K
  repeat (first | refine nx ?_ | (refine z10 fun K hK=>?_;simp only [go_sem];apply hK;clear hK K))
  simp only [go_sem]
  rfl
 ·simp only [go_sem]
  refine hK _ _ ?_
  clear hK K
  repeat (first | refine nx ?_ | (refine z10 fun K hK=>?_;simp only [go_sem];apply hK;clear hK K))
  simp only [go_sem]
theorem z1027 (k:Kitchen) (hg:KitGood k) (dy l:Nat) (hd:dy<k.days.length) (r:Nat) (gs:List (List Int)) (hl:0<(k.days.getD dy []).length)
  (ih:∀ d:Int,YFn Try.prog 98 l [.arrP 3 1 (intRows [d])] [.vh 0 1,.d (.ptr k.cells 0),.d (.ptr [.i (dy:Int)] 0),.d (.ptr [.yld l] 0),.d (cycD 98 (cycCaps98 k dy l) r)] (menuRows (addL gs [d]))) :
  YFn Try.prog 98 l [] [.nil,.d (.ptr k.cells 0),.d (.ptr [.i (dy:Int)] 0),.d (.ptr [.yld l] 0),.d (cycD 98 (cycCaps98 k dy l) (r + 1))] (menuRows (addL (suitL k (dinAt k dy 0).no::gs) [])):=by
 have h63:=z1052 k hg (dinAt k dy 0).no
 have g1:=z311 hd
 have g2:=z566 hl
 have n1:¬ ((dy:Int)<0):=by omega
 have hlb:((0:Int) == ((k.days.getD dy []).length:Int))=false:=beq_eq_false_iff_ne.2 (by omega)
 obtain ⟨no,hno⟩:∃ no,no=(dinAt k dy 0).no:=⟨_,rfl⟩
 rw [Diners.row] at g2
 rw [← hno] at h63 g2 ⊢
 have hcl:k.cells.length=4:=rfl
 have hct:k.cells.take 4=k.cells:=rfl
 have k3:k.cells[3]?=some (.sl (dayRows k.days)):=rfl
 obtain ⟨S,hS⟩:∃ S,S=suitL k no:=⟨_,rfl⟩
 have hSl:S.length≤5:=by have h1:=z222 k no k.dishes.length;have h2:=hg.dishes;rw [hS,suitL];omega
 rw [← hS] at h63 ⊢
 obtain ⟨D,hD⟩:∃ D,D=cycD 98 (cycCaps98 k dy l) r:=⟨_,rfl⟩
 have hDs:cycD 98 (cycCaps98 k dy l) (r + 1)=.ptr [.fn 98 [.ptr k.cells 0,.ptr [.i (dy:Int)] 0,.ptr [.yld l] 0,D]] 0:=by rw [hD];rfl
 rw [hDs]
 rw [← hD] at ih
 obtain ⟨F,hF⟩:∃ F,F=fun d:Int=>addL gs [d]:=⟨_,rfl⟩
 have hit0:addL (S::gs) []=S.flatMap F:=by rw [hF];rfl
 have ih:∀ d:Int,YFn Try.prog 98 l [.arrP 3 1 (intRows [d])] [.vh 0 1,.d (.ptr k.cells 0),.d (.ptr [.i (dy:Int)] 0),.d (.ptr [.yld l] 0),.d D] (menuRows (F d)):=by rw [hF];exact ih
 rw [hit0]
 refine z262 49 Try.call98 Try.func98 rfl (by decide) [] rfl (by kernel_rfl) fun J ITEMS hG hit=>?_
 simp only [go_sem,St.startG,Try.ntmps98,Try.results98,List.map_cons,List.map_nil,List.range_succ,  ]
 repeat (first | refine nx ?_ | (refine z10 fun K hK=>?_;simp only [go_sem,g1,n1,hlb,k3,hcl,List.length_nil,Int.natCast_zero];apply hK;clear hK K))
 refine z11 rfl ?_
 repeat (first | refine nx ?_ | (refine z10 fun K hK=>?_;simp only [go_sem];apply hK;clear hK K))
 refine z16 (by kernel_rfl) (by kernel_rfl) fun K hK=>?_
 simp only [go_sem,g1,n1,g2,k3,hcl,hct,List.length_nil]
 refine ⟨_,.fnS (hdst:=rfl) (hf:=h63) (hd:=rfl) (hr:=.inl (z39 _)) (hfr:=rfl),?_⟩
 simp only [go_sem]
 refine ⟨by kernel_rfl,hK _ ?_⟩
 clear hK K
 repeat (first | refine nx ?_ | (refine z10 fun K hK=>?_;simp only [go_sem];apply hK;clear hK K))
 refine z70 [9,10,11,12,13,14,15,16,17,18,23,24,25,26,27,28,29,30,31,32,33,34] ?_ ?_
 ·simp only [go_sem]
  refine weA ?_ ?_ <;> simp
 simp only [go_sem]
 refine z180 (fun (j:Nat)=>[(37,.d (.i (j:Int)))]) (fun _=>[]) (fun kk j=>j≤S.length∧kk=some (cntF F S j)) (fun j=>S.length - j) 0 ?_ ⟨Nat.zero_le _,rfl⟩ ?_
 ·simp only [go_sem]
  refine weA ?_ ?_ <;> simp
  all_goals first | done | rfl | trace_state
 ·rintro kk j ⟨hj,rfl⟩
  simp only [go_sem]
  repeat (first | refine nx ?_ | (refine z10 fun K hK=>?_;simp only [go_sem];apply hK;clear hK K))
  refine z14 rfl (fun hb=>?_) (fun hb=>?_)
  ·have hlt:j<S.length:=by simpa using hb
   have hw:IntKind.i64.wrap ((j:Int) + 1)=((j + 1:Nat):Int):=by rw [z17 (by omega)];simp
   obtain ⟨d,hd⟩:∃ d,S[j]?=some d:=⟨_,List.getElem?_eq_getElem hlt⟩
   have gS:=z35 hd
   have hnj:¬ ((j:Int)<0):=by omega
   repeat (first | refine nx ?_ | (refine z10 fun K hK=>?_;simp only [go_sem,gS,hlt,hnj];apply hK;clear hK K))
   refine z70 [38,39,40] ?_ ?_
   ·simp only [go_sem]
    refine weA ?_ ?_ <;> simp
   simp only [go_sem]
   refine z116 hG [46] 5 (by kernel_rfl) (by kernel_rfl) (by kernel_rfl) (by decide) (fun m=>⟨[.nil,.d (.ptr k.cells 0),.d (.ptr [.i (dy:Int)] 0),.d (.ptr [.yld l] 0),.d (.ptr [.fn 98 [.ptr k.cells 0,.ptr [.i (dy:Int)] 0,.ptr [.yld l] 0,D]] 0),.undef,.undef,.undef,.d (.i d)]++List.replicate 26 .undef ++
     [.own 35,.d (.i (S.length:Int)),.d (.i (j:Int)),.undef,.undef,.undef,sel (m 0) (.fn 98 [.ptr k.cells 0,.ptr [.i (dy:Int)] 0,.ptr [.yld l] 0,D]),bif m 1 then .undef else .nil,sel (m 2) (.i d),bif m 3 then .undef else .own 44,bif m 4 then .undef else .own 45,.undef,.undef,.undef],
    List.replicate 35 none++[some (.arr 3 1 (intRows S))]++List.replicate 8 none++[stB (m 3) true (.arr 3 1 [[.i d]]) (.arr 3 1 []),stB (m 4) true (.arr 3 1 (intRows [d])) (.arr 3 1 []),none,none,none]⟩) ?_ ?_ (z193 45 _ (by intro e z;simp [stB,intRows])) ?_
   ·simp only [go_sem]
   ·refine ⟨?_,?_,?_,?_,?_,trivial⟩
    all_goals
     intro m hm hd hc
     simp only [closedM,depsM,Region.binds,true_and,and_true,Nat.zero_add,Nat.reduceAdd,reduceCtorEq,forall_const] at hc hd
     cases h1:m 1 <;> cases h3:m 3 <;> cases h4:m 4 <;> (try simp [h1,h3,h4] at hc hd hm)
    all_goals
     cases h0:m 0 <;> cases h2:m 2 <;> (try simp [h0,h1,h2,h3,h4] at hc hd hm)
    all_goals
     refine ⟨rfl,rfl,?_⟩
     simp only [go_sem,hm,hd,h0,h1,h2,h3,h4,z671]
   ·intro K hK
    simp only [go_sem,z13]
    refine ⟨cntF F S j,rfl,?_⟩
    simp only [go_sem]
    refine ⟨[45],_,menuRows (F d),by decide,rfl,ih d,fun i row h=>hit _ _ (z453 hd h),?_,?_⟩
    ·refine hK _ _ ?_
     clear hK K
     repeat (first | refine nx ?_ | (refine z10 fun K hK=>?_;simp only [go_sem];apply hK;clear hK K))
     refine z11 rfl ?_
     repeat (first | refine nx ?_ | (refine z10 fun K hK=>?_;simp only [go_sem,hw];apply hK;clear hK K))
     refine ⟨j + 1,?_,⟨hlt,by rw [z312 hd,z59]⟩,by omega⟩
     refine weA ?_ ?_ <;> simp
     all_goals first | done | rfl | trace_state
    ·refine hK _ _ ?_
     clear hK K
     repeat (first | refine nx ?_ | (refine z10 fun K hK=>?_;simp only [go_sem];apply hK;clear hK K))
     refine z12 rfl ?_
     repeat (first | refine nx ?_ | (refine z10 fun K hK=>?_;simp only [go_sem];apply hK;clear hK K))
     simp only [go_sem]
  ·have he:j=S.length:=by (have:¬ j<S.length:=by simpa using hb);omega
   subst he
   repeat (first | refine nx ?_ | (refine z10 fun K hK=>?_;simp only [go_sem];apply hK;clear hK K))
   simp only [go_sem]
   exact (z454 F S).trans (z59 _).symm
theorem z567 {k:Kitchen} {dy i:Nat} (h:i<(k.days.getD dy []).length):(suitDay k dy).drop i=suitL k (dinAt k dy i).no::(suitDay k dy).drop (i + 1):=by
 have hl:i<(suitDay k dy).length:=by simpa [suitDay] using h
 have e:(suitDay k dy)[i]?=some (suitL k (dinAt k dy i).no):=by
  rw [suitDay,List.getElem?_map,List.getElem?_eq_getElem h,Option.map_some]
  unfold dinAt
  rw [List.getD_eq_getElem?_getD (l:=k.days.getD dy []),List.getElem?_eq_getElem h]
  rfl
 rw [List.getElem?_eq_getElem hl] at e
 rw [List.drop_eq_getElem_cons hl,Option.some.inj e]
theorem z998 (k:Kitchen) (hg:KitGood k) (dy l:Nat) (hd:dy<k.days.length):∀ (r:Nat) (pre:List Int),pre≠[]→pre.length + r=(k.days.getD dy []).length→pre.length<2 ^ 20 - r →
  YFn Try.prog 98 l [.arrP 3 1 (intRows pre)] [.vh 0 pre.length,.d (.ptr k.cells 0),.d (.ptr [.i (dy:Int)] 0),.d (.ptr [.yld l] 0),.d (cycD 98 (cycCaps98 k dy l) r)] (menuRows (addL ((suitDay k dy).drop pre.length) pre))
 | 0,pre,hne,hl,hsm=>by
  have e:(suitDay k dy).drop pre.length=[]:=List.drop_eq_nil_of_le (by simp [suitDay];simp at hl;omega)
  rw [e]
  exact z1025 k dy l hd pre hne (by omega) (by omega) _
 | r + 1,pre,hne,hl,hsm=>by
  rw [z567 (by omega)]
  refine z1026 k hg dy l hd pre hne r _ (by omega) (by omega) fun d=>?_
  have e:(pre++[d]).length=pre.length + 1:=by simp
  have:=z998 k hg dy l hd r (pre++[d]) (by simp) (by omega) (by omega)
  rw [e] at this
  exact this
def choicesL (k:Kitchen) (dy:Nat):List (List Int):=addL (suitDay k dy) []
theorem z1062 (k:Kitchen) (hg:KitGood k) (dy l:Nat) (hd:dy<k.days.length) :
  YFn Try.prog 98 l [] [.nil,.d (.ptr k.cells 0),.d (.ptr [.i (dy:Int)] 0),.d (.ptr [.yld l] 0),.d (cycD 98 (cycCaps98 k dy l) (k.days.getD dy []).length)] (menuRows (choicesL k dy)):=by
 have h3:(k.days.getD dy []).length≤3:=by
  rw [List.getD,List.getElem?_eq_getElem hd]
  exact (hg.groups _ (List.getElem_mem hd)).1
 unfold choicesL
 cases hr:(k.days.getD dy []).length with
 | zero =>
  have e:suitDay k dy=[]:=by rw [suitDay,List.map_eq_nil_iff];exact List.eq_nil_of_length_eq_zero hr
  rw [e]
  exact z997 k dy l hd hr _
 | succ r =>
  have e:suitDay k dy=(suitDay k dy).drop 0:=rfl
  rw [e,z567 (by omega)]
  refine z1027 k hg dy l hd r _ (by omega) fun d=>?_
  exact z998 k hg dy l hd r [d] (by simp) (by rw [hr];exact Nat.add_comm _ _) (by rw [List.length_singleton];omega)
theorem z1063 (k:Kitchen) (hg:KitGood k) (dy:Nat) (hd:dy<k.days.length):IterE Try.prog 97 [] (fun l=>[.d (.yld l),.d (.ptr k.cells 0),.d (.ptr [.i (dy:Int)] 0)]) (menuRows (choicesL k dy)):=by
 have h98:=fun l=>z1062 k hg dy l hd
 obtain ⟨r,hr⟩:∃ r,r=(k.days.getD dy []).length:=⟨_,rfl⟩
 rw [← hr] at h98
 refine z783 8 Try.call97 Try.func97 rfl rfl fun l J hG=>?_
 simp only [go_sem,St.startG,Try.ntmps97,Try.results97,List.map_cons,List.map_nil,List.range_succ,  ]
 repeat (first | refine nx ?_ | (refine z10 fun K hK=>?_;simp only [go_sem];apply hK;clear hK K))
 refine z20 [3] ?_
 simp only [go_sem]
 refine z48 (z893 4 (r + 1) _) ?_
 simp only [go_sem,cycD,List.map_cons,List.map_nil,Option.getD_some,Option.getD_none,Option.map_some]
 refine z388 hG [7] fun K hK=>?_
 simp only [go_sem]
 refine ⟨0,rfl,?_⟩
 simp only [go_sem]
 refine ⟨[],[],menuRows (choicesL k dy),by decide,rfl,h98 l,fun i row h=>by simpa using h,?_,?_⟩
 ·refine hK _ _ ?_
  clear hK K
  repeat (first | refine nx ?_ | (refine z10 fun K hK=>?_;simp only [go_sem];apply hK;clear hK K))
  simp only [go_sem]
 ·refine hK _ _ ?_
  clear hK K
  repeat (first | refine nx ?_ | (refine z10 fun K hK=>?_;simp only [go_sem];apply hK;clear hK K))
  simp only [go_sem]
theorem z1079 (k:Kitchen) (dy:Nat):Fn Try.prog 78 [.agg k.cells,.i (dy:Int)] (.fn 97 [.ptr k.cells 0,.ptr [.i (dy:Int)] 0]):=by
 refine z18 6 Try.call78 Try.func78 rfl (by decide) fun J=>?_
 simp only [go_sem,St.start,Try.ntmps78,Try.results78,Kitchen.cells]
 repeat (first | refine nx ?_ | (refine z10 fun K hK=>?_;simp only [go_sem];apply hK;clear hK K))
 simp only [go_sem]
end Go.Ab
namespace Go.Ab
open Go.RowKit Go.Proofs
set_option maxHeartbeats 16000000
set_option maxRecDepth 20000
attribute [local irreducible] WalkL Walk
abbrev PlanV:=Int × List Int
abbrev EntK:=List Int × PlanV × Nat
def planD (v:PlanV):DV:=.agg [.i v.1,.sl (intRows v.2)]
def memK (es:List EntK):List (MK × DV × Nat):=es.map fun e=>(.s e.1,planD e.2.1,e.2.2)
def lookK:List EntK→List Int→Nat→Option (Nat × PlanV × Nat)
 | [],_,_=>none
 | e::es,k,i=>if k=e.1 then some (i,e.2.1,e.2.2) else lookK es k (i + 1)
def putK:List EntK→List Int→PlanV→Nat→List EntK × Nat
 | [],k,w,c=>([(k,w,c)],c + 1)
 | e::es,k,w,c=>if k=e.1 then ((k,w,e.2.2)::es,c) else (e::(putK es k w c).1,(putK es k w c).2)
theorem z239:∀ (es:List EntK) (k:List Int) (i:Nat),findE (memK es) (.s k) i=(lookK es k i).map fun p=>(p.1,planD p.2.1,p.2.2)
 | [],_,_=>rfl
 | e::es,k,i=>by
  have ih:=z239 es k (i + 1)
  rw [memK,List.map_cons,findE,lookK]
  by_cases h:k=e.1
  ·rw [if_pos h,if_pos (by rw [h])];rfl
  ·rw [if_neg h,if_neg (by intro q;exact h (by cases q;rfl))];exact ih
theorem z510:∀ {es:List EntK} {k:List Int} {i:Nat} {j:Nat} {v:PlanV} {bn:Nat} (w:PlanV) (c:Nat),lookK es k i=some (j,v,bn)→i≤j∧putK es k w c=(es.set (j - i) (k,w,bn),c)
 | [],_,_,_,_,_,_,_,h=>by simp [lookK] at h
 | e::es,k,i,j,v,bn,w,c,h=>by
  rw [lookK] at h
  rw [putK]
  by_cases hk:k=e.1
  ·rw [if_pos hk] at h ⊢
   cases h
   exact ⟨Nat.le_refl _,by rw [Nat.sub_self];rfl⟩
  ·rw [if_neg hk] at h ⊢
   obtain ⟨h1,h2⟩:=z510 w c h
   refine ⟨by omega,?_⟩
   rw [h2,show j - i=(j - (i + 1)) + 1 by omega]
   rfl
theorem z511:∀ {es:List EntK} {k:List Int} {i:Nat} (w:PlanV) (c:Nat),lookK es k i=none→putK es k w c=(es++[(k,w,c)],c + 1)
 | [],_,_,_,_,_=>rfl
 | e::es,k,i,w,c,h=>by
  rw [lookK] at h
  rw [putK]
  by_cases hk:k=e.1
  ·rw [if_pos hk] at h;cases h
  ·rw [if_neg hk] at h ⊢
   rw [z511 w c h]
   rfl
theorem z926 (es:List EntK) (j:Nat) (a:List Int) (w:PlanV) (bn:Nat):memK (es.set j (a,w,bn))=(memK es).set j (.s a,planD w,bn):=by simp [memK,List.map_set]
theorem z847 (es:List EntK) (a:List Int) (w:PlanV) (bn:Nat):memK (es++[(a,w,bn)])=memK es++[(.s a,planD w,bn)]:=by simp [memK]
def pad10 (l:List Int):List Int:=l++List.replicate (10 - l.length) 0
theorem z127 {l:List Int} (h:l.length≤10):(pad10 l).length=10:=by simp [pad10];omega
def keyK (d:Nat) (l:List Int):List Int:=(d:Int)::pad10 l
def hiN (k:Kitchen) (d g:Nat):Int:=(dinAt k d g).count.hi
def takeD (k:Kitchen) (d:Nat) (m l:List Int):Option (List Int):=takeTo k (ordK k) (needL k m (hiN k d)) l k.allerg.length
def bestS (k:Kitchen) (d:Nat) (c:List Int × Int) (rec:List Int→List EntK × Nat→PlanV × (List EntK × Nat)) (a:PlanV × (List EntK × Nat)) (m:List Int):PlanV × (List EntK × Nat) :=
 match takeD k d m c.1 with
 | none=>a
 | some l=>(if wr (c.2 + (rec l a.2).1.1)<a.1.1 then (wr (c.2 + (rec l a.2).1.1),m) else a.1,(rec l a.2).2)
def bestM (k:Kitchen):Nat→List Int→List EntK × Nat→PlanV × (List EntK × Nat)
 | 0,_,M=>((0,[]),M)
 | r + 1,l,M=>match lookK M.1 (keyK (k.days.length - (r + 1)) l) 0 with
  | some (_,v,_)=>(v,M)
  | none =>
   let R:=(choicesL k (k.days.length - (r + 1))).foldl (bestS k (k.days.length - (r + 1)) (clrTo k ((k.days.length - (r + 1):Nat):Int) l 0 k.batches.length) (bestM k r)) ((1099511627776,[]),M)
   (R.1,putK R.2.1 (keyK (k.days.length - (r + 1)) l) R.1 R.2.2)
theorem z1078 (k:Kitchen) (d g:Nat) (hd:d<k.days.length) (hg:g<(k.days.getD d []).length) (X:List DV):Fn Try.prog 79 [.i (g:Int),.ptr [.ptr (k.cells++[.any]) 0] 0,.ptr (.i (d:Int)::X) 0] (.i (hiN k d g)):=by
 have h:=z1024 k d g hd hg
 rw [show (dinAt k d g).count.hi=hiN k d g from rfl] at h
 rw [Kitchen.cells] at h ⊢
 refine z18 13 Try.call79 Try.func79 rfl (by decide) fun J=>?_
 simp only [go_sem,St.start,Try.ntmps79,Try.results79]
 repeat (first | refine nx ?_ | (refine z10 fun K hK=>?_;simp only [go_sem];apply hK;clear hK K))
 refine z16 (by kernel_rfl) (by kernel_rfl) fun K hK=>?_
 simp only [go_sem]
 refine ⟨_,.fn (hf:=h) (hd:=rfl) (hr:=.inl rfl),?_⟩
 simp only [go_sem]
 refine ⟨by kernel_rfl,hK _ ?_⟩
 clear hK K
 repeat (first | refine nx ?_ | (refine z10 fun K hK=>?_;simp only [go_sem];apply hK;clear hK K))
 simp only [go_sem]
theorem z1095 (k:Kitchen) (d g:Nat) (hd:d<k.days.length) (hg:g<(k.days.getD d []).length):Fn Try.prog 45 [.i (g:Int),.ptr [.ptr (k.cells++[.any]) 0] 0,.ptr [.i (d:Int)] 0] (.i (hiN k d g)):=by
 have h:=z1024 k d g hd hg
 rw [show (dinAt k d g).count.hi=hiN k d g from rfl] at h
 rw [Kitchen.cells] at h ⊢
 refine z18 12 Try.call45 Try.func45 rfl (by decide) fun J=>?_
 simp only [go_sem,St.start,Try.ntmps45,Try.results45]
 repeat (first | refine nx ?_ | (refine z10 fun K hK=>?_;simp only [go_sem];apply hK;clear hK K))
 refine z16 (by kernel_rfl) (by kernel_rfl) fun K hK=>?_
 simp only [go_sem]
 refine ⟨_,.fn (hf:=h) (hd:=rfl) (hr:=.inl rfl),?_⟩
 simp only [go_sem]
 refine ⟨by kernel_rfl,hK _ ?_⟩
 clear hK K
 repeat (first | refine nx ?_ | (refine z10 fun K hK=>?_;simp only [go_sem];apply hK;clear hK K))
 simp only [go_sem]
end Go.Ab
namespace Go.Ab
open Go.RowKit Go.Proofs
set_option maxHeartbeats 16000000
set_option maxRecDepth 20000
attribute [local irreducible] WalkL Walk
def plannerRow (k:Kitchen):List AV:=[.d (.sl (intRows k.allerg)),.d (.sl (batRows k.batches)),.d (.sl (dishRows k.dishes)),.d (.sl (dayRows k.days)),.mp 1]
theorem ten {L:List Int} (h:L.length=10):∃ a b c d e f g i j l,L=[a,b,c,d,e,f,g,i,j,l]:=by
 match L,h with
 | [a,b,c,d,e,f,g,i,j,l],_=>exact ⟨a,b,c,d,e,f,g,i,j,l,rfl⟩
def planR (v:PlanV):AV:=.agg [.d (.i v.1),.d (.sl (intRows v.2))]
def HasF40 (k:Kitchen) (r:Nat):Prop:=∀ (l:List Int) (M:List EntK × Nat),l.length=k.batches.length→AmtOk l →
 FnG Try.prog 40 [.box (plannerRow k),.mp (some 11) (memK M.1) M.2] [0] [.box 0 0,.d (.agg (.i ((k.days.length - r:Nat):Int)::(pad10 l).map .i))] (planR (bestM k r l M).1)
  [.box (plannerRow k),.mp (some 11) (memK (bestM k r l M).2.1) (bestM k r l M).2.2]
def Pick:List (List Int)→List Int→Prop
 | [],[]=>True
 | S::gs,d::t=>d ∈ S∧Pick gs t
 | _,_=>False
theorem z697:∀ {SS:List (List Int)} {pre m:List Int},m ∈ addL SS pre↔∃ t,m=pre++t∧Pick SS t
 | [],pre,m=>by
  simp only [addL,List.mem_singleton]
  constructor
  ·rintro rfl;exact ⟨[],by simp,trivial⟩
  ·rintro ⟨t,rfl,ht⟩
   cases t with
   | nil=>simp
   | cons=>exact ht.elim
 | S::gs,pre,m=>by
  simp only [addL,List.mem_flatMap,z697 (SS:=gs)]
  constructor
  ·rintro ⟨d,hd,t,rfl,ht⟩;exact ⟨d::t,by simp,hd,ht⟩
  ·rintro ⟨t,rfl,ht⟩
   cases t with
   | nil=>exact ht.elim
   | cons d t=>exact ⟨d,ht.1,t,by simp,ht.2⟩
theorem Pick.len:∀ {SS:List (List Int)} {t:List Int},Pick SS t→t.length=SS.length
 | [],[],_=>rfl
 | _::gs,_::t,h=>by rw [List.length_cons,List.length_cons,Pick.len h.2]
 | [],_::_,h=>h.elim
 | _::_,[],h=>h.elim
theorem Pick.at:∀ {SS:List (List Int)} {t:List Int},Pick SS t→∀ {g:Nat} {x:Int},t[g]?=some x→∃ S,SS[g]?=some S∧x ∈ S
 | [],[],_,g,x,h=>by simp at h
 | S::gs,d::t,hp,g,x,h=>by
  cases g with
  | zero=>simp at h;subst h;exact ⟨S,rfl,hp.1⟩
  | succ g=>simpa using Pick.at hp.2 (by simpa using h)
 | [],_::_,h,_,_,_=>h.elim
 | _::_,[],h,_,_,_=>h.elim
theorem z435 {k:Kitchen} (hg:KitGood k) {d:Nat} (hd:d<k.days.length) {m:List Int} (hm:m ∈ choicesL k d):m.length=(k.days.getD d []).length∧DayOk k m (hiN k d):=by
 obtain ⟨t,e,hp⟩:=z697.1 hm
 rw [List.nil_append] at e
 subst e
 have hl:m.length=(k.days.getD d []).length:=by rw [hp.len];simp [suitDay]
 have h3:(k.days.getD d []).length≤3:=by
  rw [List.getD,List.getElem?_eq_getElem hd]
  exact (hg.groups _ (List.getElem_mem hd)).1
 refine ⟨hl,⟨by omega,fun g hgl=>?_,fun g hgl=>(z861 hg).rng d g hd (by omega)⟩⟩
 obtain ⟨x,hx⟩:∃ x,m[g]?=some x:=⟨_,List.getElem?_eq_getElem hgl⟩
 obtain ⟨S,hS,hxS⟩:=hp.at hx
 rw [suitDay,List.getElem?_map,Option.map_eq_some_iff] at hS
 obtain ⟨y,_,rfl⟩:=hS
 obtain ⟨n,rfl,hn,_⟩:=z899 hxS
 exact ⟨n,hx,hn⟩
theorem z1020 {c:List Int} (h:c.length≤10) (x:AV):(List.map (fun r=>AV.d (r.getD 0 DV.any)) (List.take (min c.length 10) (intRows c))++List.drop (1 + min c.length 10)
  [x,AV.d (.i 0),.d (.i 0),.d (.i 0),.d (.i 0),.d (.i 0),.d (.i 0),.d (.i 0),.d (.i 0),.d (.i 0),.d (.i 0)])=(pad10 c).map fun n=>AV.d (.i n):=by
 rw [Nat.min_eq_left h,Nat.add_comm,List.drop_succ_cons,List.take_of_length_le (by simp [intRows]),
  show [AV.d (.i 0),.d (.i 0),.d (.i 0),.d (.i 0),.d (.i 0),.d (.i 0),.d (.i 0),.d (.i 0),.d (.i 0),.d (.i 0)]=List.replicate 10 (AV.d (.i 0)) from rfl,List.drop_replicate,pad10,List.map_append,List.map_replicate,intRows,List.map_map]
 rfl
theorem z1034 (k:Kitchen) (hg:KitGood k):HasF40 k 0:=fun l M hl ha=>by
 obtain ⟨es,c⟩:=M
 have hb:=hg.batches
 obtain ⟨x0,x1,x2,x3,x4,x5,x6,x7,x8,x9,hx⟩:=ten (z127 (l:=l) (by omega))
 rw [hx,bestM,Nat.sub_zero]
 dsimp only [planR,List.map_cons,List.map_nil]
 have hq:((k.days.length:Int) == (k.days.length:Int))=true:=by simp
 refine z62 124 Try.call40 Try.func40 rfl (by decide) [] [(0,0)] (by simp only [List.length_cons,List.length_nil];decide) (by kernel_rfl) fun J=>?_
 simp only [go_sem,St.startG,Try.ntmps40,Try.results40,List.map_cons,List.map_nil,List.range_succ,  plannerRow]
 repeat (first | refine nx ?_ | (refine z10 fun K hK=>?_;simp only [go_sem];apply hK;clear hK K))
 refine z16 (by kernel_rfl) (by kernel_rfl) fun K hK=>?_
 simp only [go_sem,hq]
 refine ⟨by kernel_rfl,hK _ ?_⟩
 clear hK K
 refine z12 rfl ?_
 repeat refine nx ?_
 refine z10 fun K hK=>?_
 simp only [go_sem]
 apply hK
 clear hK K
 refine z216 [] [] [(4,some (.box [.d (.i 0),.d (.sl (intRows []))]))] ?_ ?_
 ·simp only [go_sem]
  refine z63 [] ?_ ?_ rfl rfl <;> simp [lessT,lessM,lessB,AV.less,intRows]
 simp only [go_sem]
 repeat (first | refine nx ?_ | (refine z10 fun K hK=>?_;simp only [go_sem];apply hK;clear hK K))
 simp only [go_sem,retG,plannerRow]
theorem z1035 (k:Kitchen) (hg:KitGood k) (r:Nat) (hr:r + 1≤k.days.length) (ih:HasF40 k r):HasF40 k (r + 1):=fun l M hl ha=>by
 obtain ⟨es,c⟩:=M
 have hb:=hg.batches
 obtain ⟨x0,x1,x2,x3,x4,x5,x6,x7,x8,x9,hx⟩:=ten (z127 (l:=l) (by omega))
 obtain ⟨d,hd⟩:∃ d,d=k.days.length - (r + 1):=⟨_,rfl⟩
 have hdl:d<k.days.length:=by omega
 rw [hx,bestM,← hd]
 have hq:((d:Int) == (k.days.length:Int))=false:=by simp;omega
 have e1:=z239 es (keyK d l) 0
 have hk:keyK d l=[(d:Int),x0,x1,x2,x3,x4,x5,x6,x7,x8,x9]:=by rw [keyK,hx]
 dsimp only [List.map_cons,List.map_nil] at e1 ⊢
 have hsl:([DV.i x0,.i x1,.i x2,.i x3,.i x4,.i x5,.i x6,.i x7,.i x8,.i x9].take k.batches.length).map (fun d=>[d])=intRows l:=by
  have:(pad10 l).take k.batches.length=l:=by rw [pad10,← hl,List.take_left'];rfl
  rw [hx] at this
  have e:[DV.i x0,.i x1,.i x2,.i x3,.i x4,.i x5,.i x6,.i x7,.i x8,.i x9]=[x0,x1,x2,x3,x4,x5,x6,x7,x8,x9].map .i:=rfl
  rw [e,← List.map_take,this,intRows,List.map_map]
  rfl
 cases hlk:lookK es (keyK d l) 0 with
 | some p =>
  obtain ⟨j,v,bn⟩:=p
  rw [hlk] at e1
  rw [hk] at e1
  dsimp only [Option.map_some,planD,planR] at e1 ⊢
  refine z62 124 Try.call40 Try.func40 rfl (by decide) [] [(0,0)] (by simp only [List.length_cons,List.length_nil];decide) (by kernel_rfl) fun J=>?_
  simp only [go_sem,St.startG,Try.ntmps40,Try.results40,List.map_cons,List.map_nil,List.range_succ,  plannerRow]
  repeat (first | refine nx ?_ | (refine z10 fun K hK=>?_;simp only [go_sem];apply hK;clear hK K))
  refine z16 (by kernel_rfl) (by kernel_rfl) fun K hK=>?_
  simp only [go_sem,hq]
  refine ⟨by kernel_rfl,hK _ ?_⟩
  clear hK K
  refine z11 rfl ?_
  repeat (first | refine nx ?_ | (refine z10 fun K hK=>?_;simp only [go_sem];apply hK;clear hK K))
  refine z16 (by kernel_rfl) (by kernel_rfl) fun K hK=>?_
  simp only [go_sem,e1]
  refine ⟨by kernel_rfl,hK _ ?_⟩
  clear hK K
  repeat (first | refine nx ?_ | (refine z10 fun K hK=>?_;simp only [go_sem];apply hK;clear hK K))
  refine z12 rfl ?_
  repeat (first | refine nx ?_ | (refine z10 fun K hK=>?_;simp only [go_sem];apply hK;clear hK K))
  simp only [go_sem,retG,plannerRow]
 | none =>
  rw [hlk] at e1
  rw [hk] at e1
  dsimp only [Option.map_none,planR] at e1 ⊢
  refine z62 124 Try.call40 Try.func40 rfl (by decide) [] [(0,0)] (by simp only [List.length_cons,List.length_nil];decide) (by kernel_rfl) fun J=>?_
  simp only [go_sem,St.startG,Try.ntmps40,Try.results40,List.map_cons,List.map_nil,List.range_succ,  plannerRow]
  repeat (first | refine nx ?_ | (refine z10 fun K hK=>?_;simp only [go_sem];apply hK;clear hK K))
  refine z16 (by kernel_rfl) (by kernel_rfl) fun K hK=>?_
  simp only [go_sem,hq]
  refine ⟨by kernel_rfl,hK _ ?_⟩
  clear hK K
  refine z11 rfl ?_
  repeat (first | refine nx ?_ | (refine z10 fun K hK=>?_;simp only [go_sem];apply hK;clear hK K))
  refine z16 (by kernel_rfl) (by kernel_rfl) fun K hK=>?_
  simp only [go_sem,e1]
  refine ⟨by kernel_rfl,hK _ ?_⟩
  clear hK K
  repeat (first | refine nx ?_ | (refine z10 fun K hK=>?_;simp only [go_sem];apply hK;clear hK K))
  refine z11 rfl ?_
  refine z20 [3] ?_
  simp only [go_sem]
  have h41:FnG Try.prog 41 [] [] (List.map AV.d [.agg k.cells]) _ _:=z1000 k hb
  have h77:=z999 l (by omega)
  have h42:=z888 k hb (d:Int) l (ordK k) 0 hl ha (by decide)
  obtain ⟨c1,c2,c3⟩:=z51 (k:=k) (day:=(d:Int)) (w:=0) ha k.batches.length
  have c4:=z45 k (d:Int) l 0 k.batches.length
  obtain ⟨⟨C,w0⟩,hC⟩:∃ a,a=clrTo k (d:Int) l 0 k.batches.length:=⟨_,rfl⟩
  rw [← hC] at h42 c1 c2 c3 c4 ⊢
  dsimp only at c1 c2 c3 c4
  have h77c:=z999 C (by omega)
  have h78:=z1079 k d
  have h97:=z1063 k hg d hdl
  simp only [lardRow] at h41 h42
  rw [Kitchen.cells] at h41 h78
  repeat (first | refine nx ?_ | (refine z10 fun K hK=>?_;simp only [go_sem];apply hK;clear hK K))
  refine z10 fun K hK=>?_
  simp only [go_sem]
  refine ⟨_,.made (news:=[41,17,18]) (hf:=h41) (hd:=rfl) (hn:=by decide) (hl:=rfl) (hnew:=rfl) (hx:=rfl),?_⟩
  simp only [go_sem,List.map_cons,List.map_nil]
  apply hK
  clear hK K
  repeat refine nx ?_
  have hbi:(k.batches.length:Int)≤10:=by omega
  refine z16 (by kernel_rfl) (by kernel_rfl) fun K hK=>?_
  simp only [go_sem,hsl,hbi,Nat.sub_zero]
  refine ⟨_,.fnS (hdst:=rfl) (hf:=h77) (hd:=rfl) (hr:=.inl (z39 _)) (hfr:=rfl),?_⟩
  simp only [go_sem]
  refine ⟨by kernel_rfl,hK _ ?_⟩
  clear hK K
  repeat refine nx ?_
  refine z10 fun K hK=>?_
  simp only [go_sem]
  refine ⟨_,.own (ns:=[41,52,18]) (news:=[]) (bads:=[52,18]) (rd:=[]) (hf:=h42) (hnd:=by decide) (hl0:=rfl) (hl1:=rfl) (hm:=by repeat (first | exact trivial | refine And.intro ?_ ?_ | rfl)) (hnew:=rfl) (hla:=rfl) (ha:=z24 (by repeat (first | exact trivial | refine And.intro ?_ ?_ | exact z27 rfl | exact z21 rfl rfl))) (hrd:=rfl) (hsh:=z22 _) (hb:=rfl) (hfl:=.inl rfl),?_⟩
  simp only [go_sem,List.map_cons,List.map_nil]
  apply hK
  clear hK K
  repeat refine nx ?_
  refine z16 (by kernel_rfl) (by kernel_rfl) fun K hK=>?_
  simp only [go_sem]
  refine ⟨by kernel_rfl,hK _ ?_⟩
  clear hK K
  repeat refine nx ?_
  refine z16 (by kernel_rfl) (by kernel_rfl) fun K hK=>?_
  simp only [go_sem]
  refine ⟨_,.fn (hf:=h78) (hd:=rfl) (hr:=.inr rfl),?_⟩
  simp only [go_sem]
  refine ⟨by kernel_rfl,hK _ ?_⟩
  clear hK K
  repeat (first | refine nx ?_ | (refine z10 fun K hK=>?_;simp only [go_sem];apply hK;clear hK K))
  refine z70 [14,15,16,17,19,20,21,22,23,24,25,26,27,28,29,30,31,32,33,34,35,36,37,38,39,40,42,43,44,45,46,47,48,49,50,51,53,54,55,56,57,58,59,60,61,62,63,64,65,66,67,68,69,70,71,72] ?_ ?_
  ·simp only [go_sem]
   refine weA ?_ ?_ <;> simp
  simp only [go_sem]
  obtain ⟨stp,hstp⟩:∃ stp,stp=bestS k d (C,w0) (bestM k r):=⟨_,rfl⟩
  rw [← hstp]
  obtain ⟨N,hN⟩:∃ N,N=choicesL k d:=⟨_,rfl⟩
  rw [← hN] at h97 ⊢
  rw [Kitchen.cells] at h97
  refine z470 [] (m0:=[]) rfl (by decide) rfl h97 (by intro row hr;obtain ⟨m,_,rfl⟩:=List.mem_map.1 hr;rfl) (fun _=>[]) (fun (a:PlanV × (List EntK × Nat))=>[(7,some (.box [.d (.i a.1.1),.d (.sl (intRows a.1.2))])),(41,some (.box [.d (.sl (intRows k.allerg)),.d (.sl (batRows k.batches)),.d (.sl (dishRows k.dishes)),.d (.sl (dayRows k.days)),.undef,.own 18,.d (.i w0)])),(125,some (.mp (some 11) (memK a.2.1) a.2.2))])
   (fun i a=>a=(N.take i).foldl stp ((1099511627776,[]),(es,c))) (fun _ _=>False) ((1099511627776,[]),(es,c)) ?_ rfl ?_ ?_ (fun _ _ h=>h.elim)
  ·simp only [go_sem]
   refine z63 [] ?_ ?_ rfl rfl <;> simp [lessT,lessM,lessB,AV.less,intRows]
  ·rintro X W i ⟨⟨bw,bm⟩,es1,c1'⟩ row hi ha l2 m2
   dsimp only
   rw [menuRows,List.getElem?_map,Option.map_eq_some_iff] at hi
   obtain ⟨m,hm,rfl⟩:=hi
   simp only [go_sem]
   repeat (first | refine nx ?_ | (refine z10 fun K hK=>?_;simp only [go_sem];apply hK;clear hK K))
   refine z16 (by kernel_rfl) (by kernel_rfl) fun K hK=>?_
   simp only [go_sem]
   refine ⟨_,.fnS (hdst:=rfl) (hf:=h77c) (hd:=rfl) (hr:=.inl (z39 _)) (hfr:=rfl),?_⟩
   simp only [go_sem]
   refine ⟨by kernel_rfl,hK _ ?_⟩
   clear hK K
   repeat refine nx ?_
   obtain ⟨hml,hday⟩:=z435 hg hdl (by rw [← hN];exact List.mem_of_getElem? hm)
   have h44:=(z887 k hg m (hiN k d) 79 [.ptr [.ptr (k.cells++[.any]) 0] 0,.ptr (.i (d:Int)::[.i x0,.i x1,.i x2,.i x3,.i x4,.i x5,.i x6,.i x7,.i x8,.i x9]) 0] hday (fun j hj=>z1078 k d j hdl (by omega) _))
   have h43:=z955 k (needL k m (hiN k d)) C (ordK k) w0 (by omega) hb c1 (z53 hg hday) (by rw [z43];exact hg.goods.2) (fun x hx=>z68 hx) (by rw [z95];exact hb)
   rw [z43] at h43
   rw [Kitchen.cells] at h44
   dsimp only [List.cons_append,List.nil_append] at h44
   have hnx:(N.take (i + 1)).foldl stp ((1099511627776,[]),(es,c))=stp ((bw,bm),(es1,c1')) m:=by rw [z78 _ _ _ _ _ hm,← ha]
   obtain ⟨NN,hNN⟩:∃ NN,NN=needL k m (hiN k d):=⟨_,rfl⟩
   rw [← hNN] at h44 h43
   have hsm:stp ((bw,bm),(es1,c1')) m=match takeTo k (ordK k) NN C k.allerg.length with
    | none=>((bw,bm),(es1,c1'))
    | some l=>(if wr (w0 + (bestM k r l (es1,c1')).1.1)<bw then (wr (w0 + (bestM k r l (es1,c1')).1.1),m) else (bw,bm),(bestM k r l (es1,c1')).2):=by rw [hstp,hNN];rfl
   rw [hsm] at hnx
   cases htk:takeTo k (ordK k) NN C k.allerg.length with
   | none =>
    rw [htk] at h43 hnx
    simp only [takeBlks,lardRow,Option.isSome_none] at h43
    refine z150 (fun b=>[(80,bif b 0 then .undef else .box 41 0),(81,bif b 1 then .undef else .box 124 0),(82,bif b 2 then .undef else .box 124 0),(83,bif b 3 then .undef else .box 124 0),
     (84,bif b 4 then .undef else .agg [.d (.sl (intRows k.allerg)),.d (.sl (batRows k.batches)),.d (.sl (dishRows k.dishes)),.d (.sl (dayRows k.days))]),(85,bif b 5 then .undef else .d (.sl (intRows m))),
     (86,bif b 6 then .undef else .fn 79 [.box 2 0,.d (.ptr [.i (d:Int),.i x0,.i x1,.i x2,.i x3,.i x4,.i x5,.i x6,.i x7,.i x8,.i x9] 0)]),(87,bif b 7 then .undef else .own 87)])
     (fun b=>[(87,bif b 7 then none else some (.arr 3 1 (intRows NN)))]) 8 (by kernel_rfl) (by kernel_rfl) (by kernel_rfl) (by decide) ?_ ?_ (z90 [87] _) ?_
    ·simp only [go_sem]
    ·refine ⟨?_,?_,?_,?_,?_,?_,?_,?_,trivial⟩
     all_goals
      intro b hbm hdm _
      simp only [depsM,Region.binds,true_and,and_true,Nat.zero_add,Nat.reduceAdd,reduceCtorEq,forall_const] at hdm
      refine ⟨rfl,rfl,?_⟩
      simp only [go_sem,hbm,hdm]
     ·refine ⟨_,.lentS (hdst:=rfl) (hf:=h44) (hd:=rfl) (hr:=z39 _) (hfr:=rfl),?_⟩
      simp only [go_sem,hbm,hdm]
    ·intro K hK
     simp only [go_sem]
     refine ⟨_,.own (ns:=[41,77,18]) (news:=[]) (bads:=[77,18]) (rd:=[]) (hf:=h43) (hnd:=by decide) (hl0:=rfl) (hl1:=rfl) (hm:=by repeat (first | exact trivial | refine And.intro ?_ ?_ | rfl)) (hnew:=rfl) (hla:=rfl) (ha:=z24 (by repeat (first | exact trivial | refine And.intro ?_ ?_ | exact z27 rfl | exact z21 rfl rfl))) (hrd:=rfl) (hsh:=z22 _) (hb:=rfl) (hfl:=.inl rfl),?_⟩
     simp only [go_sem,List.map_cons,List.map_nil]
     refine hK _ _ ?_
     clear hK K
     repeat refine nx ?_
     refine z12 rfl ?_
     repeat (first | refine nx ?_ | (refine z10 fun K hK=>?_;simp only [go_sem];apply hK;clear hK K))
     refine ⟨rfl,_,?_,hnx.symm⟩
     simp only [go_sem]
     refine weA ?_ ?_ <;> simp
   | some c' =>
    rw [htk] at h43 hnx
    simp only [takeBlks,lardRow,Option.isSome_some] at h43
    refine z150 (fun b=>[(80,bif b 0 then .undef else .box 41 0),(81,bif b 1 then .undef else .box 124 0),(82,bif b 2 then .undef else .box 124 0),(83,bif b 3 then .undef else .box 124 0),
     (84,bif b 4 then .undef else .agg [.d (.sl (intRows k.allerg)),.d (.sl (batRows k.batches)),.d (.sl (dishRows k.dishes)),.d (.sl (dayRows k.days))]),(85,bif b 5 then .undef else .d (.sl (intRows m))),
     (86,bif b 6 then .undef else .fn 79 [.box 2 0,.d (.ptr [.i (d:Int),.i x0,.i x1,.i x2,.i x3,.i x4,.i x5,.i x6,.i x7,.i x8,.i x9] 0)]),(87,bif b 7 then .undef else .own 87)])
     (fun b=>[(87,bif b 7 then none else some (.arr 3 1 (intRows NN)))]) 8 (by kernel_rfl) (by kernel_rfl) (by kernel_rfl) (by decide) ?_ ?_ (z90 [87] _) ?_
    ·simp only [go_sem]
    ·refine ⟨?_,?_,?_,?_,?_,?_,?_,?_,trivial⟩
     all_goals
      intro b hbm hdm _
      simp only [depsM,Region.binds,true_and,and_true,Nat.zero_add,Nat.reduceAdd,reduceCtorEq,forall_const] at hdm
      refine ⟨rfl,rfl,?_⟩
      simp only [go_sem,hbm,hdm]
     ·refine ⟨_,.lentS (hdst:=rfl) (hf:=h44) (hd:=rfl) (hr:=z39 _) (hfr:=rfl),?_⟩
      simp only [go_sem,hbm,hdm]
    ·intro K hK
     simp only [go_sem]
     refine ⟨_,.own (ns:=[41,77,18]) (news:=[6]) (bads:=[77,18]) (rd:=[]) (hf:=h43) (hnd:=by decide) (hl0:=rfl) (hl1:=rfl) (hm:=by repeat (first | exact trivial | refine And.intro ?_ ?_ | rfl)) (hnew:=rfl) (hla:=rfl) (ha:=z24 (by repeat (first | exact trivial | refine And.intro ?_ ?_ | exact z27 rfl | exact z21 rfl rfl))) (hrd:=rfl) (hsh:=z22 _) (hb:=rfl) (hfl:=.inl rfl),?_⟩
     simp only [go_sem,List.map_cons,List.map_nil]
     refine hK _ _ ?_
     clear hK K
     repeat refine nx ?_
     refine z11 rfl ?_
     obtain ⟨t1,t2⟩:=z124 (k:=k) (o:=ordK k) (needs:=NN) c1 (fun x hx=>by rw [hNN] at hx;exact (z53 hg hday x hx).1) k.allerg.length c' htk
     have hcl:c'.length=k.batches.length:=by omega
     have ihc:=ih c' (es1,c1') hcl t1
     have hdr:k.days.length - r=d + 1:=by omega
     rw [hdr] at ihc
     obtain ⟨y0,y1,y2,y3,y4,y5,y6,y7,y8,y9,hy⟩:=ten (z127 (l:=c') (by omega))
     rw [hy] at ihc
     dsimp only at hnx
     obtain ⟨⟨pw,pm⟩,es2,c2',hbm⟩:∃ p es2 c2',bestM k r c' (es1,c1')=(p,es2,c2'):=⟨_,_,_,rfl⟩
     rw [hbm] at ihc hnx
     dsimp only [planR,List.map_cons,List.map_nil] at ihc hnx
     rw [plannerRow] at ihc
     have hw1:IntKind.i64.wrap ((d:Int) + 1)=((d + 1:Nat):Int):=by have:=hg.days;rw [z17 (by omega)];simp
     have hi1:headIs 1 (intRows c')=true:=by cases c' <;> rfl
     repeat (first | refine nx ?_ | (refine z10 fun K hK=>?_;simp only [go_sem,hw1];apply hK;clear hK K))
     have hcp:=z1020 (c:=c') (by omega) (.d (.i ((d + 1:Nat):Int)))
     rw [hy] at hcp
     simp only [List.map_cons,List.map_nil] at hcp
     refine z16 (by kernel_rfl) (by kernel_rfl) fun K hK=>?_
     simp only [go_sem,hi1,z13,hcp]
     refine ⟨by kernel_rfl,hK _ ?_⟩
     clear hK K
     repeat refine nx ?_
     refine z10 fun K hK=>?_
     simp only [go_sem]
     refine ⟨_,.own (ns:=[124,125]) (news:=[]) (bads:=[125]) (rd:=[]) (hf:=ihc) (hnd:=by decide) (hl0:=rfl) (hl1:=rfl) (hm:=by repeat (first | exact trivial | refine And.intro ?_ ?_ | rfl)) (hnew:=rfl) (hla:=rfl) (ha:=z24 (by repeat (first | exact trivial | refine And.intro ?_ ?_ | exact z27 rfl | exact z21 rfl rfl))) (hrd:=rfl) (hsh:=z22 _) (hb:=rfl) (hfl:=.inl rfl),?_⟩
     simp only [go_sem,List.map_cons,List.map_nil]
     apply hK
     clear hK K
     by_cases hlt:wr (w0 + pw)<bw
     ·have hd2:decide (wr (w0 + pw)<bw)=true:=decide_eq_true hlt
      rw [if_pos hlt] at hnx
      rw [wr] at hd2 hnx
      repeat (first | refine z12 rfl ?_ | refine z11 rfl ?_ | refine nx ?_ | (refine z10 fun K hK=>?_;simp only [go_sem,hd2];apply hK;clear hK K))
      refine ⟨rfl,_,?_,hnx.symm⟩
      simp only [go_sem]
      refine weA ?_ ?_ <;> simp
     ·have hd2:decide (wr (w0 + pw)<bw)=false:=decide_eq_false hlt
      rw [if_neg hlt] at hnx
      rw [wr] at hd2
      repeat (first | refine z12 rfl ?_ | refine z11 rfl ?_ | refine nx ?_ | (refine z10 fun K hK=>?_;simp only [go_sem,hd2];apply hK;clear hK K))
      refine ⟨rfl,_,?_,hnx.symm⟩
      simp only [go_sem]
      refine weA ?_ ?_ <;> simp
  ·rintro ⟨⟨bw,bm⟩,es1,c1'⟩ ha
   rw [z59,List.take_length] at ha
   rw [← ha]
   dsimp only
   simp only [go_sem]
   repeat refine nx ?_
   have e5:=z239 es1 (keyK d l) 0
   rw [hk] at e5 ⊢
   refine z150 (fun b=>[(117,bif b 0 then .undef else .box 124 0),(118,bif b 1 then .undef else .box 124 0),(119,bif b 2 then .undef else .box 124 4),(120,bif b 3 then .undef else .mp 125),
     (121,bif b 4 then .undef else .d (.agg [.i (d:Int),.i x0,.i x1,.i x2,.i x3,.i x4,.i x5,.i x6,.i x7,.i x8,.i x9])),(122,bif b 5 then .undef else .agg [.d (.i bw),.d (.sl (intRows bm))])])
     (fun b=>[]) 6 (by kernel_rfl) (by kernel_rfl) (by kernel_rfl) (by decide) ?_ ?_ (Weak.refl _) ?_
   ·simp only [go_sem]
   ·refine ⟨?_,?_,?_,?_,?_,?_,trivial⟩
    all_goals
     intro b hbm hdm _
     simp only [depsM,Region.binds,true_and,and_true,Nat.zero_add,Nat.reduceAdd,reduceCtorEq,forall_const] at hdm
     refine ⟨rfl,rfl,?_⟩
     simp only [go_sem,hbm,hdm]
   ·intro K hK
    cases hlk2:lookK es1 [(d:Int),x0,x1,x2,x3,x4,x5,x6,x7,x8,x9] 0 with
    | none =>
     rw [hlk2] at e5
     dsimp only [Option.map_none] at e5
     rw [z511 (i:=0) (bw,bm) c1' hlk2] at hK
     dsimp only at hK
     rw [z847,planD] at hK
     simp only [go_sem,e5]
     refine hK _ _ ?_
     clear hK K
     repeat (first | refine nx ?_ | (refine z10 fun K hK=>?_;simp only [go_sem];apply hK;clear hK K))
     simp only [go_sem,retG,plannerRow,planR]
    | some p =>
     obtain ⟨j,v,bn⟩:=p
     rw [hlk2] at e5
     dsimp only [Option.map_some] at e5
     have e4:=(z510 (i:=0) (bw,bm) c1' hlk2).2
     rw [Nat.sub_zero] at e4
     rw [e4] at hK
     dsimp only at hK
     rw [z926,planD] at hK
     simp only [go_sem,e5]
     refine hK _ _ ?_
     clear hK K
     repeat (first | refine nx ?_ | (refine z10 fun K hK=>?_;simp only [go_sem];apply hK;clear hK K))
     simp only [go_sem,retG,plannerRow,planR]
theorem z1036 (k:Kitchen) (hg:KitGood k):∀ r,r≤k.days.length→HasF40 k r
 | 0,_=>z1034 k hg
 | r + 1,h=>z1035 k hg r h (z1036 k hg r (by omega))
end Go.Ab
namespace Go.Ab
open Go.RowKit Go.Proofs
def bestSN (k:Kitchen) (d:Nat) (c:List Int × Int) (rec:List Int→PlanV) (a:PlanV) (m:List Int):PlanV :=
 match takeD k d m c.1 with
 | none=>a
 | some l=>if c.2 + (rec l).1<a.1 then (c.2 + (rec l).1,m) else a
def bestN (k:Kitchen):Nat→List Int→PlanV
 | 0,_=>(0,[])
 | r + 1,l=>(choicesL k (k.days.length - (r + 1))).foldl (bestSN k (k.days.length - (r + 1)) (clrTo k ((k.days.length - (r + 1):Nat):Int) l 0 k.batches.length) (bestN k r)) (1099511627776,[])
def lookT (es:List EntK) (k:List Int):Option PlanV:=(lookK es k 0).map (·.2.1)
theorem z533:∀ (es:List EntK) (k:List Int) (i j:Nat),(lookK es k i).map (·.2.1)=(lookK es k j).map (·.2.1)
 | [],_,_,_=>rfl
 | e::es,k,i,j=>by
  rw [lookK,lookK]
  split
  ·rfl
  ·exact z533 es k _ _
theorem z130 (e:EntK) (es:List EntK) (k:List Int):lookT (e::es) k=if k=e.1 then some e.2.1 else lookT es k:=by
 rw [lookT,lookK]
 split
 ·rfl
 ·exact z533 es k _ _
theorem z532:∀ (es:List EntK) (k k':List Int) (w:PlanV) (c:Nat),lookT (putK es k w c).1 k'=if k'=k then some w else lookT es k'
 | [],k,k',w,c=>by
  rw [putK,z130]
 | e::es,k,k',w,c=>by
  rw [putK]
  by_cases hk:k=e.1
  ·rw [if_pos hk]
   dsimp only
   rw [z130,z130]
   by_cases h1:k'=k
   ·rw [if_pos h1,if_pos h1]
   ·rw [if_neg h1,if_neg h1,if_neg (by rw [← hk];exact h1)]
  ·rw [if_neg hk]
   dsimp only
   rw [z130,z130,z532 es k k' w c]
   by_cases h1:k'=k
   ·rw [if_pos h1,if_pos h1,if_neg (by rw [h1];exact hk)]
   ·rw [if_neg h1,if_neg h1]
theorem z834 {a b:List Int} (h:a.length=b.length) (e:pad10 a=pad10 b):a=b:=by
 have:=congrArg (List.take a.length) e
 rwa [pad10,pad10,List.take_left',h,List.take_left'] at this <;> first | rfl | exact h.symm
theorem z937 {d e:Nat} {a b:List Int} (h:a.length=b.length) (q:keyK d a=keyK e b):d=e∧a=b:=by
 rw [keyK,keyK,List.cons.injEq] at q
 exact ⟨by omega,z834 h q.2⟩
def GoodT (k:Kitchen) (es:List EntK):Prop:=∀ (d:Nat) (l:List Int) v,d≤k.days.length→l.length=k.batches.length→lookT es (keyK d l)=some v→v=bestN k (k.days.length - d) l
theorem z865 (k:Kitchen):GoodT k []:=fun d l v _ _ h=>by cases h
theorem z864 {k:Kitchen} {es:List EntK} (h:GoodT k es) {d:Nat} {l:List Int} (hl:l.length=k.batches.length) {v:PlanV} (hv:v=bestN k (k.days.length - d) l) (c:Nat):GoodT k (putK es (keyK d l) v c).1:=fun d' l' v' hd' hl' hg=>by
 rw [z532] at hg
 split at hg
 ·rename_i e
  obtain ⟨rfl,rfl⟩:=z937 (by omega) e
  cases hg
  exact hv
 ·exact h d' l' v' hd' hl' hg
theorem z556 {α β:Type} {f:α→β→α} {p:α→Prop}:∀ (N:List β) {a:α},p a→(∀ a m,m ∈ N→p a→p (f a m))→p (N.foldl f a)
 | [],_,h,_=>h
 | m::N,_,h,hs=>z556 N (hs _ m (by simp) h) fun a x hx=>hs a x (by simp [hx])
theorem z392 {k:Kitchen} (hg:KitGood k) {d:Nat} (hd:d<k.days.length) {m l l':List Int} (hm:DayOk k m (hiN k d)) (ha:AmtOk l) (h:takeD k d m l=some l'):AmtOk l'∧l'.length=l.length :=
 z124 ha (fun x hx=>(z53 hg hm x hx).1) _ _ h
def clr0 (k:Kitchen) (d:Nat) (l:List Int):List Int × Int:=clrTo k (d:Int) l 0 k.batches.length
theorem z682 {k:Kitchen} (hg:KitGood k) {d:Nat} {l:List Int} (hl:l.length=k.batches.length) (ha:AmtOk l):AmtOk (clr0 k d l).1∧(clr0 k d l).1.length=k.batches.length∧0≤(clr0 k d l).2∧(clr0 k d l).2≤10000000:=by
 obtain ⟨h1,h2,h3⟩:=z51 (k:=k) (day:=(d:Int)) (w:=0) ha k.batches.length
 have:=hg.batches
 refine ⟨h1,by rw [clr0,z45,hl],h2,?_⟩
 unfold clr0
 omega
theorem z458 {k:Kitchen} (hg:KitGood k):∀ r,r≤k.days.length→∀ l:List Int,l.length=k.batches.length→AmtOk l →
  (0≤(bestN k r l).1∧(bestN k r l).1≤1099511627776)∧(bestN k r l=(1099511627776,[])∨r=0∨(bestN k r l).2 ∈ choicesL k (k.days.length - r))
 | 0,_,l,_,_=>by simp [bestN]
 | r + 1,hr,l,hl,ha=>by
  rw [bestN]
  obtain ⟨d,hd⟩:∃ d,d=k.days.length - (r + 1):=⟨_,rfl⟩
  rw [← hd]
  change (0≤((choicesL k d).foldl (bestSN k d (clr0 k d l) (bestN k r)) (1099511627776,[])).1∧_)∧(((choicesL k d).foldl (bestSN k d (clr0 k d l) (bestN k r)) (1099511627776,[]))=_∨_)
  obtain ⟨c1,c2,c3,c4⟩:=z682 hg (d:=d) hl ha
  refine z556 (p:=fun a:PlanV=>(0≤a.1∧a.1≤1099511627776)∧(a=(1099511627776,[])∨r + 1=0∨a.2 ∈ choicesL k d)) (choicesL k d) ⟨by decide,.inl rfl⟩ fun a m hm h=>?_
  unfold bestSN
  split
  ·exact h
  ·rename_i l' hl'
   obtain ⟨t1,t2⟩:=z392 hg (by omega) (z435 hg (by omega) hm).2 c1 hl'
   have hb:=(z458 hg r (by omega) l' (by omega) t1).1
   split
   ·exact ⟨by dsimp only;omega,.inr (.inr hm)⟩
   ·exact h
theorem z242 {k:Kitchen} (hg:KitGood k):∀ r,r≤k.days.length→∀ l:List Int,l.length=k.batches.length→AmtOk l→∀ M:List EntK × Nat,GoodT k M.1→(bestM k r l M).1=bestN k r l∧GoodT k (bestM k r l M).2.1
 | 0,_,l,_,_,M,h=>⟨rfl,h⟩
 | r + 1,hr,l,hl,ha,M,h=>by
  obtain ⟨d,hd⟩:∃ d,d=k.days.length - (r + 1):=⟨_,rfl⟩
  have hrd:k.days.length - d=r + 1:=by omega
  have hN:bestN k (r + 1) l=(choicesL k d).foldl (bestSN k d (clr0 k d l) (bestN k r)) (1099511627776,[]):=by rw [bestN,← hd];rfl
  rw [bestM,← hd]
  cases hlk:lookK M.1 (keyK d l) 0 with
  | some p =>
   obtain ⟨j,v,bn⟩:=p
   dsimp only
   refine ⟨?_,h⟩
   rw [← hrd]
   exact h d l v (by omega) hl (by rw [lookT,hlk];rfl)
  | none =>
   dsimp only
   change ((choicesL k d).foldl (bestS k d (clr0 k d l) (bestM k r)) ((1099511627776,[]),M)).1=_∧GoodT k (putK ((choicesL k d).foldl (bestS k d (clr0 k d l) (bestM k r)) ((1099511627776,[]),M)).2.1 (keyK d l) ((choicesL k d).foldl (bestS k d (clr0 k d l) (bestM k r)) ((1099511627776,[]),M)).1 _).1
   have key:∀ (N:List (List Int)) (a:PlanV) (M:List EntK × Nat),(∀ m ∈ N,m ∈ choicesL k d)→GoodT k M.1→(0≤a.1∧a.1≤1099511627776) →
     (N.foldl (bestS k d (clr0 k d l) (bestM k r)) (a,M)).1=N.foldl (bestSN k d (clr0 k d l) (bestN k r)) a∧GoodT k (N.foldl (bestS k d (clr0 k d l) (bestM k r)) (a,M)).2.1:=by
    intro N
    induction N with
    | nil=>intro a M _ hM _;exact ⟨rfl,hM⟩
    | cons m N ih =>
     intro a M hm hM ha2
     rw [List.foldl_cons,List.foldl_cons]
     obtain ⟨c1,c2,c3,c4⟩:=z682 hg (d:=d) hl ha
     have hmd:=hm m (by simp)
     have ih:=fun a M=>ih a M fun x hx=>hm x (by simp [hx])
     cases ht:takeD k d m (clr0 k d l).1 with
     | none =>
      have e1:bestS k d (clr0 k d l) (bestM k r) (a,M) m=(a,M):=by rw [bestS,ht]
      have e2:bestSN k d (clr0 k d l) (bestN k r) a m=a:=by rw [bestSN,ht]
      rw [e1,e2]
      exact ih a M hM ha2
     | some l' =>
      obtain ⟨t1,t2⟩:=z392 hg (by omega) (z435 hg (by omega) hmd).2 c1 ht
      obtain ⟨b1,b2⟩:=z242 hg r (by omega) l' (by omega) t1 M hM
      have hb:=(z458 hg r (by omega) l' (by omega) t1).1
      have hw:wr ((clr0 k d l).2 + (bestN k r l').1)=(clr0 k d l).2 + (bestN k r l').1:=z17 (by omega)
      have e1:bestS k d (clr0 k d l) (bestM k r) (a,M) m=(if (clr0 k d l).2 + (bestN k r l').1<a.1 then ((clr0 k d l).2 + (bestN k r l').1,m) else a,(bestM k r l' M).2):=by
       rw [bestS,ht]
       dsimp only
       rw [b1,hw]
      have e2:bestSN k d (clr0 k d l) (bestN k r) a m=if (clr0 k d l).2 + (bestN k r l').1<a.1 then ((clr0 k d l).2 + (bestN k r l').1,m) else a:=by rw [bestSN,ht]
      rw [e1,e2]
      refine ih _ _ b2 ?_
      split
      ·dsimp only;omega
      ·exact ha2
   obtain ⟨k1,k2⟩:=key (choicesL k d) (1099511627776,[]) M (fun _ h=>h) h (by decide)
   rw [k1,hN]
   exact ⟨rfl,z864 k2 hl (by rw [hrd,hN]) _⟩
end Go.Ab
namespace Go.Ab
open Go.RowKit Go.Proofs
set_option maxHeartbeats 16000000
set_option maxRecDepth 20000
attribute [local irreducible] WalkL Walk
theorem z681 (k:Kitchen) (day:Int) (l:List Int) (w:Int):∀ j,(clrTo k day l w j).1=(clrTo k day l 0 j).1
 | 0=>rfl
 | j + 1=>by
  rw [clrTo,clrTo,z681 k day l w j]
  split
  ·rfl
  ·exact z681 k day l w j
def planL (k:Kitchen):Nat→List Int × List (List Int)
 | 0=>(amtK k,[])
 | i + 1=>((takeD k i (bestN k (k.days.length - i) (planL k i).1).2 (clr0 k i (planL k i).1).1).getD (clr0 k i (planL k i).1).1,(planL k i).2++[(bestN k (k.days.length - i) (planL k i).1).2])
theorem z913 (k:Kitchen) (i:Nat):planL k (i + 1)=((takeD k i (bestN k (k.days.length - i) (planL k i).1).2 (clr0 k i (planL k i).1).1).getD (clr0 k i (planL k i).1).1,(planL k i).2++[(bestN k (k.days.length - i) (planL k i).1).2]):=rfl
theorem z146 (k:Kitchen):(amtK k).length=k.batches.length:=by simp [amtK]
theorem z874 (k:Kitchen) (cnt:Nat→Int):DayOk k [] cnt:=⟨by decide,fun g h=>by simp at h,fun g h=>by simp at h⟩
theorem z381 {k:Kitchen} (hg:KitGood k) {i:Nat} (hi:i<k.days.length) {l:List Int} (hl:l.length=k.batches.length) (ha:AmtOk l):DayOk k (bestN k (k.days.length - i) l).2 (hiN k i)∧((bestN k (k.days.length - i) l).2.length≤(k.days.getD i []).length):=by
 rcases (z458 hg (k.days.length - i) (by omega) l hl ha).2 with h | h | h
 ·rw [h];exact ⟨z874 k _,Nat.zero_le _⟩
 ·omega
 ·rw [show k.days.length - (k.days.length - i)=i by omega] at h
  obtain ⟨h1,h2⟩:=z435 hg hi h
  exact ⟨h2,by omega⟩
theorem z694 {k:Kitchen} (hg:KitGood k):∀ i,i≤k.days.length→AmtOk (planL k i).1∧(planL k i).1.length=k.batches.length
 | 0,_=>⟨z321 hg,z146 k⟩
 | i + 1,h=>by
  obtain ⟨h1,h2⟩:=z694 hg i (by omega)
  obtain ⟨c1,c2,c3,c4⟩:=z682 hg (d:=i) h2 h1
  rw [planL]
  dsimp only
  cases ht:takeD k i (bestN k (k.days.length - i) (planL k i).1).2 (clr0 k i (planL k i).1).1 with
  | none=>exact ⟨c1,c2⟩
  | some l' =>
   obtain ⟨t1,t2⟩:=z392 hg (by omega) (z381 hg (by omega) h2 h1).1 c1 ht
   exact ⟨t1,by rw [Option.getD_some,t2,c2]⟩
theorem z512 (k:Kitchen):∀ i,(planL k i).2.length=i
 | 0=>rfl
 | i + 1=>by rw [planL];simp [z512 k i]
def wasteK (k:Kitchen):Int:=(bestN k k.days.length (amtK k)).1
def planK (k:Kitchen):List (List Int) × Int × Int :=
 if kitE k=0 then (if wasteK k ≥ 1099511627776 then ([],0,3) else ((planL k k.days.length).2,wasteK k,0)) else ([],0,kitE k)
def lefts (k:Kitchen) (i:Nat):List Int:=(amtK k).take i++List.replicate (10 - i) 0
theorem z535 {k:Kitchen} {i:Nat} (h:i≤10) (hi:i≤k.batches.length:=by omega):(lefts k i).length=10:=by simp [lefts,amtK];omega
theorem z852 {k:Kitchen} {i:Nat} (h:i<k.batches.length) (hb:k.batches.length≤10):(lefts k i).set i (batAt k i).amount=lefts k (i + 1):=by
 have e:(amtK k)[i]?=some (batAt k i).amount:=by
  have:=(List.getElem?_eq_getElem h)
  simp [amtK,batAt,this]
 have hl:((amtK k).take i).length=i:=by simp [amtK];omega
 rw [lefts,lefts,List.take_add_one,e,List.set_append_right _ _ (by omega),hl,Nat.sub_self,show 10 - i=(10 - (i + 1)) + 1 by omega,List.replicate_succ]
 simp
theorem z853 (k:Kitchen):lefts k k.batches.length=pad10 (amtK k):=by rw [lefts,pad10,z146,List.take_of_length_le (by rw [z146];exact Nat.le_refl _)]
theorem z994 {c p:List Int} (h:c.length≤10) (hp:p.length=c.length) (x:AV):(List.map (fun r=>AV.d (r.getD 0 DV.any)) (List.take (min c.length 10) (intRows c))++List.drop (1 + min c.length 10)
  (x::(pad10 p).map fun n=>AV.d (.i n)))=(pad10 c).map fun n=>AV.d (.i n):=by
 rw [Nat.min_eq_left h,Nat.add_comm,List.drop_succ_cons,List.take_of_length_le (by simp [intRows]),← List.map_drop,pad10,← hp,List.drop_left',pad10,← hp,List.map_append,intRows,List.map_map]
 ·rfl
 ·rfl
theorem z1104 (k:Kitchen) (hs:KitSmall k):Fn Try.prog 15 [.agg k.cells] (.tup [.sl (listRows (planK k).1),.i (planK k).2.1,.i (planK k).2.2]):=by
 have h35:=z1055 k hs
 unfold planK
 by_cases h0:¬ kitE k=0
 ·have hb:(kitE k == 0)=false:=by simpa using h0
  have hb2:(kitE k != 0)=true:=by simpa using h0
  rw [if_neg h0]
  rw [Kitchen.cells] at h35 ⊢
  dsimp only
  refine z18 86 Try.call15 Try.func15 rfl (by decide) fun J=>?_
  simp only [go_sem,St.start,Try.ntmps15,Try.results15]
  repeat (first | refine z12 rfl ?_ | refine z11 rfl ?_ | refine nx ?_ | (refine z10 fun K hK=>?_;simp only [go_sem,hb,hb2];(repeat (first | (refine ⟨_,.lent (hf:=h35) (hd:=rfl) (hr:=rfl),?_⟩;simp only [go_sem,hb,hb2]) | (refine ⟨_,.given (hf:=h35) (hd:=rfl) (ha:=rfl),?_⟩;simp only [go_sem,hb,hb2])));apply hK;clear hK K))
  simp only [go_sem,listRows,List.map_nil]
 have h0:kitE k=0:=Decidable.not_not.1 h0
 rw [if_pos h0]
 have hg:KitGood k:=z173 (by
  cases hb:badKit k with
  | false=>rfl
  | true=>rw [kitE,hb] at h0;cases h0)
 rw [h0] at h35
 have hbl:=hg.batches
 have h10:=hg.days
 rw [Kitchen.cells] at h35 ⊢
 refine z18 86 Try.call15 Try.func15 rfl (by decide) fun J=>?_
 simp only [go_sem,St.start,Try.ntmps15,Try.results15]
 repeat (first | refine z12 rfl ?_ | refine z11 rfl ?_ | refine nx ?_ | (refine z10 fun K hK=>?_;simp only [go_sem];(repeat (first | (refine ⟨_,.lent (hf:=h35) (hd:=rfl) (hr:=rfl),?_⟩;simp only [go_sem]) | (refine ⟨_,.given (hf:=h35) (hd:=rfl) (ha:=rfl),?_⟩;simp only [go_sem])));apply hK;clear hK K))
 refine z15 (fun (i:Nat)=>[(26,.d (.i (i:Int)))]) (fun i=>[(7,some (.box (.d (.i 0)::(lefts k i).map fun n=>.d (.i n))))]) (fun i=>i≤k.batches.length) (fun i=>k.batches.length - i) 0 ?_ (Nat.zero_le _) ?_
 ·simp only [go_sem]
  refine z63 [] ?_ ?_ rfl rfl <;> simp [lessT,lessM,lessB,AV.less,lefts]
 ·intro i hi
  have hll:=z535 (k:=k) (i:=i) (by omega)
  simp only [go_sem]
  repeat (first | refine nx ?_ | (refine z10 fun K hK=>?_;simp only [go_sem];apply hK;clear hK K))
  refine z14 rfl (fun hb=>?_) (fun hb=>?_)
  ·have hlt:i<k.batches.length:=by simpa using hb
   have hw:IntKind.i64.wrap ((i:Int) + 1)=((i + 1:Nat):Int):=by rw [z17 (by omega)];simp
   have gb:=z261 hlt
   rw [Batch.row] at gb
   have hni:¬ ((i:Int)<0):=by omega
   have hi10:i<10:=by omega
   have hst:=z852 hlt hbl
   have hsp:List.take (1 + i) (AV.d (DV.i 0)::(lefts k i).map fun n=>AV.d (DV.i n))++AV.d (DV.i (batAt k i).amount)::List.drop (1 + i) ((lefts k i).map fun n=>AV.d (DV.i n))=AV.d (DV.i 0)::(lefts k (i + 1)).map fun n=>AV.d (DV.i n):=by
    rw [← hst,List.map_set,List.set_eq_take_append_cons_drop,if_pos (by simp;omega),Nat.add_comm,List.take_succ_cons]
    rfl
   have h1i:1 + i≤10:=by omega
   obtain ⟨y0,y1,y2,y3,y4,y5,y6,y7,y8,y9,hy⟩:=ten (z535 (k:=k) (i:=i + 1) (by omega))
   rw [hy] at hsp
   simp only [List.map_cons,List.map_nil] at hsp
   repeat (first | refine nx ?_ | (refine z10 fun K hK=>?_;simp only [go_sem,gb,hni,hi10,hll,h1i,hsp,hw];apply hK;clear hK K))
   refine ⟨rfl,i + 1,?_,hlt,by omega⟩
   simp only [hy,List.map_cons,List.map_nil]
   refine weA ?_ ?_ <;> simp
  ·have he:i=k.batches.length:=by (have:¬ i<k.batches.length:=by simpa using hb);omega
   subst he
   have hpd:(lefts k k.batches.length)=pad10 (amtK k):=z853 k
   obtain ⟨x0,x1,x2,x3,x4,x5,x6,x7,x8,x9,hx⟩:=ten (z127 (l:=amtK k) (by rw [z146];omega))
   rw [hpd,hx]
   have h40:=z1036 k hg k.days.length (Nat.le_refl _) (amtK k) ([],0) (z146 k) (z321 hg)
   obtain ⟨g1,g2⟩:=z242 hg k.days.length (Nat.le_refl _) (amtK k) (z146 k) (z321 hg) ([],0) (z865 k)
   obtain ⟨⟨wv,wm⟩,es,c,hbm⟩:∃ p es c,bestM k k.days.length (amtK k) ([],0)=(p,es,c):=⟨_,_,_,rfl⟩
   rw [hbm] at h40 g1 g2
   rw [hx,Nat.sub_self,plannerRow] at h40
   dsimp only [planR,List.map_cons,List.map_nil] at h40
   simp only [List.map_cons,List.map_nil] at h40 ⊢
   dsimp only at g1 g2
   have hwv:wasteK k=wv:=by rw [wasteK,← g1]
   rw [hwv]
   change FnG Try.prog 40 [_,.mp (some 11) [] 0] [0] _ _ _ at h40
   repeat refine nx ?_
   refine z10 fun K hK=>?_
   simp only [go_sem]
   refine ⟨_,.own (ns:=[22,20]) (news:=[]) (bads:=[20]) (rd:=[]) (hf:=h40) (hnd:=by decide) (hl0:=rfl) (hl1:=rfl) (hm:=by repeat (first | exact trivial | refine And.intro ?_ ?_ | rfl)) (hnew:=rfl) (hla:=rfl) (ha:=z24 (by repeat (first | exact trivial | refine And.intro ?_ ?_ | exact z27 rfl | exact z21 rfl rfl))) (hrd:=rfl) (hsh:=z22 _) (hb:=rfl) (hfl:=.inl rfl),?_⟩
   simp only [go_sem,List.map_cons,List.map_nil]
   apply hK
   clear hK K
   by_cases hge:wv ≥ 1099511627776
   ·have hd:decide (wv ≥ 1099511627776)=true:=decide_eq_true hge
    rw [if_pos hge]
    repeat (first | refine z12 rfl ?_ | refine z11 rfl ?_ | refine nx ?_ | (refine z10 fun K hK=>?_;simp only [go_sem,hd];apply hK;clear hK K))
    simp only [go_sem,listRows,List.map_nil]
   have hd:decide (wv ≥ 1099511627776)=false:=decide_eq_false hge
   rw [if_neg hge]
   have h41:FnG Try.prog 41 [] [] (List.map AV.d [.agg k.cells]) _ _:=z1000 k hbl
   simp only [lardRow] at h41
   rw [Kitchen.cells] at h41
   dsimp only
   repeat (first | refine z12 rfl ?_ | refine z11 rfl ?_ | refine nx ?_ | (refine z10 fun K hK=>?_;simp only [go_sem,hd];apply hK;clear hK K))
   refine z10 fun K hK=>?_
   simp only [go_sem]
   refine ⟨_,.made (news:=[47,13,14]) (hf:=h41) (hd:=rfl) (hn:=by decide) (hl:=rfl) (hnew:=rfl) (hx:=rfl),?_⟩
   simp only [go_sem,List.map_cons,List.map_nil]
   apply hK
   clear hK K
   repeat (first | refine nx ?_ | (refine z10 fun K hK=>?_;simp only [go_sem];apply hK;clear hK K))
   refine z15 (fun (q:Nat × Int × (List EntK × Nat) × List Int × Int)=>[(51,.d (.i (q.1:Int))),(2,.own 82)])
    (fun q=>[(47,some (.box [.d (.sl (intRows k.allerg)),.d (.sl (batRows k.batches)),.d (.sl (dishRows k.dishes)),.d (.sl (dayRows k.days)),.own 13,.own 14,.d (.i q.2.1)])),(13,some (.arr 3 1 (intRows (planL k q.1).1))),
     (20,some (.mp (some 11) (memK q.2.2.1.1) q.2.2.1.2)),(7,some (.box (.d (.i q.2.2.2.2)::(pad10 q.2.2.2.1).map fun n=>.d (.i n)))),(82,some (.arr 22 1 (listRows (planL k q.1).2)))])
    (fun q=>q.1≤k.days.length∧GoodT k q.2.2.1.1∧(0≤q.2.1∧q.2.1≤10000000 * q.1)∧q.2.2.2.1.length=k.batches.length) (fun q=>k.days.length - q.1) (0,0,(es,c),amtK k,0) ?_ ⟨Nat.zero_le _,g2,⟨Int.le_refl _,Int.le_refl _⟩,z146 k⟩ ?_
   ·simp only [go_sem,hx,List.map_cons,List.map_nil]
    refine z63 [82] ?_ ?_ rfl rfl <;> simp [lessT,lessM,lessB,AV.less,planL,listRows]
   ·rintro ⟨i,w,⟨es,c⟩,pv,e⟩ ⟨hi,hgt,⟨hw0,hw1⟩,hpv⟩
    dsimp only at hi hgt hw0 hw1 hpv
    obtain ⟨z0,z1,z2,z3,z4,z5,z6,z7,z8,z9,hz⟩:=ten (z127 (l:=pv) (by omega))
    obtain ⟨p1,p2⟩:=z694 hg i hi
    simp only [go_sem,hz,List.map_cons,List.map_nil]
    repeat (first | refine nx ?_ | (refine z10 fun K hK=>?_;simp only [go_sem];apply hK;clear hK K))
    refine z14 rfl (fun hb=>?_) (fun hb=>?_)
    ·have hlt:i<k.days.length:=by simpa using hb
     have hw:IntKind.i64.wrap ((i:Int) + 1)=((i + 1:Nat):Int):=by rw [z17 (by omega)];simp
     obtain ⟨L,hL⟩:∃ L,L=(planL k i).1:=⟨_,rfl⟩
     have hps:=z913 k i
     rw [← hL] at p1 p2 hps ⊢
     have hL10:L.length≤10:=by omega
     obtain ⟨y0,y1,y2,y3,y4,y5,y6,y7,y8,y9,hy⟩:=ten (z127 (l:=L) hL10)
     have hcp:=z994 (c:=L) (p:=pv) hL10 (by omega) (.d (.i e))
     rw [hy,hz] at hcp
     simp only [List.map_cons,List.map_nil] at hcp
     have hi1:headIs 1 (intRows L)=true:=by cases L <;> rfl
     have hir:k.days.length - (k.days.length - i)=i:=by omega
     have h40:=z1036 k hg (k.days.length - i) (by omega) L (es,c) p2 p1
     obtain ⟨g1,g2⟩:=z242 hg (k.days.length - i) (by omega) L p2 p1 (es,c) hgt
     obtain ⟨m1,m2⟩:=z381 hg hlt p2 p1
     obtain ⟨⟨wv2,wm2⟩,es2,c2,hbm2⟩:∃ p es2 c2,bestM k (k.days.length - i) L (es,c)=(p,es2,c2):=⟨_,_,_,rfl⟩
     rw [hbm2] at h40 g1 g2
     dsimp only at g1 g2
     rw [← g1] at m1 m2 hps
     dsimp only at m1 m2 hps
     rw [hir,hy,plannerRow] at h40
     dsimp only [planR,List.map_cons,List.map_nil] at h40
     simp only [List.map_cons,List.map_nil] at h40
     have h42:=z888 k hbl (i:Int) L (ordK k) w p2 p1 ⟨hw0,by omega⟩
     obtain ⟨c1,c2',c3⟩:=z51 (k:=k) (day:=(i:Int)) (w:=w) p1 k.batches.length
     have c4:=z45 k (i:Int) L w k.batches.length
     have c5:(clr0 k i L).1=(clrTo k (i:Int) L w k.batches.length).1:=by rw [clr0,← z681]
     rw [c5] at hps
     obtain ⟨⟨C,v⟩,hC⟩:∃ a,a=clrTo k (i:Int) L w k.batches.length:=⟨_,rfl⟩
     rw [← hC] at h42 c1 c2' c3 c4 hps
     dsimp only at c1 c2' c3 c4 hps
     have h44:=z887 k hg wm2 (hiN k i) 45 [.ptr [.ptr (k.cells++[.any]) 0] 0,.ptr [.i (i:Int)] 0] m1 (fun j hj=>z1095 k i j hlt (by omega))
     have h43:=z955 k (needL k wm2 (hiN k i)) C (ordK k) v (by omega) hbl c1 (z53 hg m1) (by rw [z43];exact hg.goods.2) (fun x hx=>z68 hx) (by rw [z95];exact hbl)
     rw [z43] at h43
     rw [Kitchen.cells] at h44
     dsimp only [List.cons_append,List.nil_append] at h44
     simp only [lardRow] at h42
     unfold takeD at hps
     obtain ⟨NN,hNN⟩:∃ NN,NN=needL k wm2 (hiN k i):=⟨_,rfl⟩
     rw [← hNN] at h44 h43 hps
     obtain ⟨ms,hms⟩:∃ ms,ms=(planL k i).2:=⟨_,rfl⟩
     have hap:listRows ms++[[.sl (intRows wm2)]]=listRows (ms++[wm2]):=by simp [listRows]
     have hml:ms.length + 1≤549755813888:=by rw [hms,z512];omega
     rw [← hms] at hps ⊢
     repeat (first | refine nx ?_ | (refine z10 fun K hK=>?_;simp only [go_sem];apply hK;clear hK K))
     refine z16 (by kernel_rfl) (by kernel_rfl) fun K hK=>?_
     simp only [go_sem,hi1,z13,hcp]
     refine ⟨by kernel_rfl,hK _ ?_⟩
     clear hK K
     repeat refine nx ?_
     refine z10 fun K hK=>?_
     simp only [go_sem]
     apply hK
     clear hK K
     repeat refine nx ?_
     refine z10 fun K hK=>?_
     simp only [go_sem]
     refine ⟨_,.own (ns:=[22,20]) (news:=[]) (bads:=[20]) (rd:=[]) (hf:=h40) (hnd:=by decide) (hl0:=rfl) (hl1:=rfl) (hm:=by repeat (first | exact trivial | refine And.intro ?_ ?_ | rfl)) (hnew:=rfl) (hla:=rfl) (ha:=z24 (by repeat (first | exact trivial | refine And.intro ?_ ?_ | exact z27 rfl | exact z21 rfl rfl))) (hrd:=rfl) (hsh:=z22 _) (hb:=rfl) (hfl:=.inl rfl),?_⟩
     simp only [go_sem,List.map_cons,List.map_nil]
     apply hK
     clear hK K
     repeat refine nx ?_
     refine z10 fun K hK=>?_
     simp only [go_sem]
     refine ⟨_,.own (ns:=[47,13,14]) (news:=[]) (bads:=[13,14]) (rd:=[]) (hf:=h42) (hnd:=by decide) (hl0:=rfl) (hl1:=rfl) (hm:=by repeat (first | exact trivial | refine And.intro ?_ ?_ | rfl)) (hnew:=rfl) (hla:=rfl) (ha:=z24 (by repeat (first | exact trivial | refine And.intro ?_ ?_ | exact z27 rfl | exact z21 rfl rfl))) (hrd:=rfl) (hsh:=z22 _) (hb:=rfl) (hfl:=.inl rfl),?_⟩
     simp only [go_sem,List.map_cons,List.map_nil]
     apply hK
     clear hK K
     cases htk:takeTo k (ordK k) NN C k.allerg.length with
     | none =>
      rw [htk] at h43 hps
      simp only [takeBlks,lardRow,Option.isSome_none] at h43
      rw [Option.getD_none] at hps
      repeat refine nx ?_
      refine z194 8 fun K hK=>?_
      simp only [go_sem]
      refine ⟨_,.lentS (hdst:=rfl) (hf:=h44) (hd:=rfl) (hr:=z39 _) (hfr:=rfl),?_⟩
      simp only [go_sem]
      refine ⟨_,z90 [77] _,?_⟩
      simp only [go_sem]
      refine ⟨_,.own (ns:=[47,13,14]) (news:=[]) (bads:=[13,14]) (rd:=[]) (hf:=h43) (hnd:=by decide) (hl0:=rfl) (hl1:=rfl) (hm:=by repeat (first | exact trivial | refine And.intro ?_ ?_ | rfl)) (hnew:=rfl) (hla:=rfl) (ha:=z24 (by repeat (first | exact trivial | refine And.intro ?_ ?_ | exact z27 rfl | exact z21 rfl rfl))) (hrd:=rfl) (hsh:=z22 _) (hb:=rfl) (hfl:=.inl rfl),?_⟩
      simp only [go_sem,List.map_cons,List.map_nil]
      apply hK
      clear hK K
      repeat (first | refine nx ?_ | (refine z10 fun K hK=>?_;simp only [go_sem,hml,hap,hw,z25];apply hK;clear hK K))
      refine ⟨rfl,(i + 1,v,(es2,c2),L,(i:Int)),?_,⟨hlt,g2,⟨by dsimp only;omega,by dsimp only;push_cast;omega⟩,p2⟩,by dsimp only;omega⟩
      dsimp only
      rw [hps]
      simp only [go_sem,hy,List.map_cons,List.map_nil]
      refine weA ?_ ?_ <;> simp
     | some c' =>
      rw [htk] at h43 hps
      simp only [takeBlks,lardRow,Option.isSome_some] at h43
      rw [Option.getD_some] at hps
      repeat refine nx ?_
      refine z194 8 fun K hK=>?_
      simp only [go_sem]
      refine ⟨_,.lentS (hdst:=rfl) (hf:=h44) (hd:=rfl) (hr:=z39 _) (hfr:=rfl),?_⟩
      simp only [go_sem]
      refine ⟨_,z90 [77] _,?_⟩
      simp only [go_sem]
      refine ⟨_,.own (ns:=[47,13,14]) (news:=[15]) (bads:=[13,14]) (rd:=[]) (hf:=h43) (hnd:=by decide) (hl0:=rfl) (hl1:=rfl) (hm:=by repeat (first | exact trivial | refine And.intro ?_ ?_ | rfl)) (hnew:=rfl) (hla:=rfl) (ha:=z24 (by repeat (first | exact trivial | refine And.intro ?_ ?_ | exact z27 rfl | exact z21 rfl rfl))) (hrd:=rfl) (hsh:=z22 _) (hb:=rfl) (hfl:=.inl rfl),?_⟩
      simp only [go_sem,List.map_cons,List.map_nil]
      apply hK
      clear hK K
      refine z216 [] [] [(13,none)] ?_ ?_
      ·simp only [go_sem]
       refine weA ?_ ?_ <;> simp
      simp only [go_sem]
      refine z469 15 13 ?_
      simp only [go_sem]
      repeat (first | refine nx ?_ | (refine z10 fun K hK=>?_;simp only [go_sem,hml,hap,hw,z25];apply hK;clear hK K))
      refine ⟨rfl,(i + 1,v,(es2,c2),L,(i:Int)),?_,⟨hlt,g2,⟨by dsimp only;omega,by dsimp only;push_cast;omega⟩,p2⟩,by dsimp only;omega⟩
      dsimp only
      rw [hps]
      simp only [go_sem,hy,List.map_cons,List.map_nil]
      refine weA ?_ ?_ <;> simp
    ·have he:i=k.days.length:=by (have:¬ i<k.days.length:=by simpa using hb);omega
     subst he
     repeat (first | refine nx ?_ | (refine z10 fun K hK=>?_;simp only [go_sem];apply hK;clear hK K))
     simp only [go_sem]
end Go.Ab
namespace Go.Ab
open Go.RowKit Go.Proofs
set_option maxHeartbeats 16000000
set_option maxRecDepth 20000
attribute [local irreducible] WalkL Walk
def countB (n:Int) (g:Diners):Bool:=withinB n g.count.lo g.count.hi
theorem z1093 (n:Int) (g:Diners):Fn Try.prog 53 [.i n,.agg g.row] (.bool (countB n g)):=by
 have h:=z886 n g.count.lo g.count.hi
 unfold countB
 refine z18 13 Try.call53 Try.func53 rfl (by decide) fun J=>?_
 simp only [go_sem,St.start,Try.ntmps53,Try.results53,Diners.row]
 repeat (first | refine nx ?_ | (refine z10 fun K hK=>?_;simp only [go_sem];(repeat (first | (refine ⟨_,.lent (hf:=h) (hd:=rfl) (hr:=rfl),?_⟩;simp only [go_sem]) | (refine ⟨_,.given (hf:=h) (hd:=rfl) (ha:=rfl),?_⟩;simp only [go_sem])));apply hK;clear hK K))
 simp only [go_sem]
theorem z1032 (k:Kitchen) (hg:KitGood k) (M:List (List Int)) (hM:M.length<2 ^ 30) (hMr:∀ r ∈ M,r.length<2 ^ 30):Fn Try.prog 52 [.agg k.cells,.sl (listRows M),.fn 53 []] (.bool (shapedB (countB) M k.days)):=by
 have hdd:=hg.days
 have hgr:=hg.groups
 obtain ⟨q,hq⟩:∃ q,q=countB:=⟨_,rfl⟩
 have h137:=fun (n:Int) (g:Diners)=>z1093 n g
 simp only [← hq] at h137
 rw [← hq]
 obtain ⟨R,hR⟩:∃ R,R=shapedB q M k.days:=⟨_,rfl⟩
 rw [← hR]
 cases q1:((M.length:Int) != (k.days.length:Int))
 ·have hl:M.length=k.days.length:=by
   simp only [bne_eq_false_iff_eq] at q1
   omega
  refine z18 55 Try.call52 Try.func52 rfl (by decide) fun J=>?_
  simp only [go_sem,St.start,Try.ntmps52,Try.results52,Kitchen.cells]
  repeat (first | refine z12 rfl ?_ | refine z11 rfl ?_ | refine nx ?_ | (refine z10 fun K hK=>?_;simp only [go_sem,q1];apply hK;clear hK K))
  refine z15 (fun (i:Nat)=>[(22,.d (.i (i:Int)))]) (fun _=>[]) (fun i=>i≤k.days.length∧R=shapedB q (M.drop i) (k.days.drop i)) (fun i=>k.days.length - i) 0 ?_ ⟨Nat.zero_le _,hR⟩ ?_
  ·simp only [go_sem]
   refine weA ?_ ?_ <;> simp
  ·rintro i ⟨hi,hRi⟩
   simp only [go_sem]
   repeat (first | refine nx ?_ | (refine z10 fun K hK=>?_;simp only [go_sem];apply hK;clear hK K))
   refine z14 rfl (fun hb=>?_) (fun hb=>?_)
   ·have hlt:i<k.days.length:=by simpa using hb
    have hw:IntKind.i64.wrap ((i:Int) + 1)=((i + 1:Nat):Int):=by rw [z17 (by omega)];simp
    obtain ⟨d,hd⟩:∃ d,k.days[i]?=some d:=⟨_,List.getElem?_eq_getElem hlt⟩
    obtain ⟨r,hr⟩:∃ r,M[i]?=some r:=⟨_,List.getElem?_eq_getElem (by omega)⟩
    have g1:=z73 hd
    have g2:=z32 hr
    have hni:¬ ((i:Int)<0):=by omega
    have hd3:=(hgr d (List.mem_of_getElem? hd)).1
    rw [z29 hd,z29 hr,shapedB] at hRi
    cases q2:((r.length:Int) != (d.length:Int))
    ·have hrl:r.length=d.length:=by
      simp only [bne_eq_false_iff_eq] at q2
      omega
     repeat (first | refine z12 rfl ?_ | refine z11 rfl ?_ | refine nx ?_ | (refine z10 fun K hK=>?_;simp only [go_sem,g1,g2,hni,q2];apply hK;clear hK K))
     refine z15 (fun (j:Nat)=>[(37,.d (.i (j:Int)))]) (fun _=>[]) (fun j=>j≤d.length∧R=(rowOk q (r.drop j) (d.drop j) && shapedB q (M.drop (i + 1)) (k.days.drop (i + 1)))) (fun j=>d.length - j) 0 ?_ ⟨Nat.zero_le _,hRi⟩ ?_
     ·simp only [go_sem]
      refine weA ?_ ?_ <;> simp
     ·rintro j ⟨hj,hRj⟩
      simp only [go_sem]
      repeat (first | refine nx ?_ | (refine z10 fun K hK=>?_;simp only [go_sem];apply hK;clear hK K))
      refine z14 rfl (fun hb=>?_) (fun hb=>?_)
      ·have hltj:j<d.length:=by simpa using hb
       have hwj:IntKind.i64.wrap ((j:Int) + 1)=((j + 1:Nat):Int):=by rw [z17 (by omega)];simp
       obtain ⟨g,hgj⟩:∃ g,d[j]?=some g:=⟨_,List.getElem?_eq_getElem hltj⟩
       obtain ⟨n,hnj⟩:∃ n,r[j]?=some n:=⟨_,List.getElem?_eq_getElem (by omega)⟩
       have g3:=z84 hgj
       have g4:=z35 hnj
       rw [Diners.row] at g3
       have hnjj:¬ ((j:Int)<0):=by omega
       have hc:=h137 n g
       rw [Diners.row] at hc
       rw [z29 hgj,z29 hnj,rowOk] at hRj
       cases q3:q n g
       ·rw [q3] at hRj hc
        rw [Bool.false_and,Bool.false_and] at hRj
        rw [hRj]
        repeat (first | refine nx ?_ | (refine z10 fun K hK=>?_;simp only [go_sem,g3];apply hK;clear hK K))
        refine z16 (by kernel_rfl) (by kernel_rfl) fun K hK=>?_
        simp only [go_sem,g2,g4,hni,hnjj]
        refine ⟨_,.fn (hf:=hc) (hd:=rfl) (hr:=.inl rfl),?_⟩
        simp only [go_sem]
        refine ⟨by kernel_rfl,hK _ ?_⟩
        clear hK K
        repeat (first | refine z12 rfl ?_ | refine z11 rfl ?_ | refine nx ?_ | (refine z10 fun K hK=>?_;simp only [go_sem];apply hK;clear hK K))
        simp only [go_sem]
       ·rw [q3] at hRj hc
        rw [Bool.true_and] at hRj
        repeat (first | refine nx ?_ | (refine z10 fun K hK=>?_;simp only [go_sem,g3];apply hK;clear hK K))
        refine z16 (by kernel_rfl) (by kernel_rfl) fun K hK=>?_
        simp only [go_sem,g2,g4,hni,hnjj]
        refine ⟨_,.fn (hf:=hc) (hd:=rfl) (hr:=.inl rfl),?_⟩
        simp only [go_sem]
        refine ⟨by kernel_rfl,hK _ ?_⟩
        clear hK K
        repeat (first | refine z12 rfl ?_ | refine z11 rfl ?_ | refine nx ?_ | (refine z10 fun K hK=>?_;simp only [go_sem,hwj];apply hK;clear hK K))
        refine ⟨rfl,j + 1,?_,⟨hltj,hRj⟩,by omega⟩
        refine weA ?_ ?_ <;> simp
      ·have he:j=d.length:=by (have:¬ j<d.length:=by simpa using hb);omega
       subst he
       rw [List.drop_length,← hrl,List.drop_length,rowOk,Bool.true_and] at hRj
       repeat (first | refine nx ?_ | (refine z10 fun K hK=>?_;simp only [go_sem,hw];apply hK;clear hK K))
       refine ⟨rfl,i + 1,?_,⟨hlt,hRj⟩,by omega⟩
       refine weA ?_ ?_ <;> simp
    ·have hf:rowOk q r d=false:=by
      cases hx:rowOk q r d with
      | false=>rfl
      | true =>
       have:=z66 hx
       rw [this] at q2
       simp at q2
     rw [hf,Bool.false_and] at hRi
     rw [hRi]
     repeat (first | refine z12 rfl ?_ | refine z11 rfl ?_ | refine nx ?_ | (refine z10 fun K hK=>?_;simp only [go_sem,g1,g2,hni,q2];apply hK;clear hK K))
     simp only [go_sem]
   ·have he:i=k.days.length:=by (have:¬ i<k.days.length:=by simpa using hb);omega
    subst he
    rw [List.drop_length,← hl,List.drop_length,shapedB] at hRi
    rw [hRi]
    repeat (first | refine nx ?_ | (refine z10 fun K hK=>?_;simp only [go_sem];apply hK;clear hK K))
    simp only [go_sem]
 ·have hf:R=false:=by
   rw [hR]
   cases hx:shapedB q M k.days with
   | false=>rfl
   | true =>
    have:=z38 hx
    rw [this] at q1
    simp at q1
  rw [hf]
  refine z18 55 Try.call52 Try.func52 rfl (by decide) fun J=>?_
  simp only [go_sem,St.start,Try.ntmps52,Try.results52,Kitchen.cells]
  repeat (first | refine z12 rfl ?_ | refine z11 rfl ?_ | refine nx ?_ | (refine z10 fun K hK=>?_;simp only [go_sem,q1];apply hK;clear hK K))
  simp only [go_sem]
def cntOf (C:List (List Int)) (d g:Nat):Int:=getI (C.getD d []) (g:Int)
theorem z1092 (C:List (List Int)) (d g:Nat) (hd:d<C.length) (hg:g<(C.getD d []).length):Fn Try.prog 56 [.i (d:Int),.i (g:Int),.ptr [.sl (listRows C)] 0] (.i (cntOf C d g)):=by
 have e:C.getD d []=C[d]:=by rw [List.getD,List.getElem?_eq_getElem hd];rfl
 have g1:=z32 (List.getElem?_eq_getElem hd)
 unfold cntOf
 rw [e] at hg ⊢
 have g2:=z33 hg
 have n1:¬ ((d:Int)<0):=by omega
 have n2:¬ ((g:Int)<0):=by omega
 refine z18 13 Try.call56 Try.func56 rfl (by decide) fun J=>?_
 simp only [go_sem,St.start,Try.ntmps56,Try.results56]
 repeat (first | refine nx ?_ | (refine z10 fun K hK=>?_;simp only [go_sem,g1,g2,n1,n2];apply hK;clear hK K))
 simp only [go_sem]
theorem z1028 (C:List (List Int)) (d g:Nat) (hd:d<C.length) (hg:g<(C.getD d []).length):Fn Try.prog 84 [.i (g:Int),.ptr [.fn 56 [.ptr [.sl (listRows C)] 0]] 0,.ptr [.i (d:Int)] 0] (.i (cntOf C d g)):=by
 have h:=z1092 C d g hd hg
 refine z18 9 Try.call84 Try.func84 rfl (by decide) fun J=>?_
 simp only [go_sem,St.start,Try.ntmps84,Try.results84]
 repeat (first | refine nx ?_ | (refine z10 fun K hK=>?_;simp only [go_sem];(repeat (first | (refine ⟨_,.lent (hf:=h) (hd:=rfl) (hr:=rfl),?_⟩;simp only [go_sem]) | (refine ⟨_,.given (hf:=h) (hd:=rfl) (ha:=rfl),?_⟩;simp only [go_sem])));apply hK;clear hK K))
 simp only [go_sem]
theorem z708 {k:Kitchen} (hg:KitGood k) {C:List (List Int)} (hC:shapedB countB C k.days=true):CntOk k (cntOf C):=⟨fun d g hd hgl=>by
 have hl:=z38 hC
 obtain ⟨r,hr⟩:∃ r,C[d]?=some r:=⟨_,List.getElem?_eq_getElem (by omega)⟩
 obtain ⟨x,hx,hro⟩:=z108 hC hr
 have e:k.days.getD d []=x:=by rw [List.getD,hx];rfl
 rw [e] at hgl
 have hrl:=z66 hro
 obtain ⟨n,hn⟩:∃ n,r[g]?=some n:=⟨_,List.getElem?_eq_getElem (by omega)⟩
 obtain ⟨y,hy,hq⟩:=z197 hro hn
 have hi:=((hg.groups x (List.mem_of_getElem? hx)).2 y (List.mem_of_getElem? hy)).2
 have hw:=z37.1 hq
 have e2:cntOf C d g=n:=by rw [cntOf,List.getD,hr,Option.getD_some,getI,Int.toNat_natCast,List.getD,hn];rfl
 rw [e2]
 omega⟩
theorem z960 {k:Kitchen} {C:List (List Int)} (hC:shapedB countB C k.days=true) {d g:Nat} (hd:d<k.days.length) (hgl:g<(k.days.getD d []).length):d<C.length∧g<(C.getD d []).length:=by
 have hl:=z38 hC
 obtain ⟨r,hr⟩:∃ r,C[d]?=some r:=⟨_,List.getElem?_eq_getElem (by omega)⟩
 obtain ⟨x,hx,hro⟩:=z108 hC hr
 have e:k.days.getD d []=x:=by rw [List.getD,hx];rfl
 rw [e] at hgl
 have hrl:=z66 hro
 refine ⟨by omega,?_⟩
 rw [List.getD,hr,Option.getD_some]
 omega
end Go.Ab
namespace Go.Ab
open Go.RowKit Go.Proofs
set_option maxHeartbeats 16000000
set_option maxRecDepth 20000
attribute [local irreducible] WalkL Walk
theorem z1030 (k:Kitchen) (hg:KitGood k) (M:List (List Int)) (hM:shapedB (menuB k) M k.days=true) (N:List (List Int)) (hN:shapedB countB N k.days=true) :
  FnG Try.prog 55 [.box (lardRow k (.own 1) (.own 2) 0),.arr 3 1 (intRows (amtK k)),.arr 3 1 (natRows (ordK k))] [0] [.box 0 0,.d (.sl (listRows M)),.d (.fn 56 [.ptr [.sl (listRows N)] 0])] (.d (.i (lastD k M (cntOf N) M.length:Nat))) (runBlks k M (cntOf N)):=by
 have hc:=z708 hg hN
 have hf84:=fun d g (hd:d<k.days.length) (hgl:g<(k.days.getD d []).length)=>z1028 N d g (z960 hN hd hgl).1 (z960 hN hd hgl).2
 obtain ⟨cnt,hcnt⟩:∃ cnt,cnt=cntOf N:=⟨_,rfl⟩
 rw [← hcnt] at hc ⊢
 simp only [← hcnt] at hf84
 have hbl:=hg.batches
 have hdl:=hg.days
 have hMl:=z38 hM
 have hgo:=hg.goods
 obtain ⟨A0,hA0⟩:∃ a,a=left0 k:=⟨_,rfl⟩
 refine z62 33 Try.call55 Try.func55 rfl (by decide) [] [(0,0)] (by simp only [List.length_cons,List.length_nil];decide) (by kernel_rfl) fun J=>?_
 simp only [go_sem,St.startG,Try.ntmps55,Try.results55,List.map_cons,List.map_nil,List.range_succ,  lardRow]
 repeat refine nx ?_
 refine z10 fun K hK=>?_
 simp only [go_sem]
 apply hK
 clear hK K
 refine z20 [5] ?_
 simp only [go_sem]
 repeat (first | refine nx ?_ | (refine z10 fun K hK=>?_;simp only [go_sem,z25];apply hK;clear hK K))
 refine z15 (fun (q:Nat × Nat × List Int × Int)=>[(11,.d (.i (q.1:Int)))])
  (fun q=>[(33,some (.box (lardRow k (.own (nmL q.2.1)) (.own 35) q.2.2.2))),(34,some (.arr 3 1 (intRows (if q.2.1=0 then q.2.2.1 else A0)))),(1,if q.2.1=1 then some (.arr 3 1 (intRows q.2.2.1)) else none),(2,if q.2.1=2 then some (.arr 3 1 (intRows q.2.2.1)) else none)])
  (fun q=>q.1≤M.length∧runSt k M cnt q.1=some q.2.2∧(q.2.1=0→q.1=0∧q.2.2.1=amtK k)∧(q.1=0→q.2.1=0)∧q.2.1<3) (fun q=>M.length - q.1) (0,0,amtK k,0) ?_ ⟨Nat.zero_le _,rfl,fun _=>⟨rfl,rfl⟩,fun _=>rfl,Nat.zero_lt_succ _⟩ ?_
 ·simp only [go_sem,nmL,lardRow]
  refine weA ?_ ?_ <;> simp
  all_goals first | done | rfl | exact ⟨rfl,rfl⟩ | trace_state
 ·rintro ⟨d,p,l,w⟩ ⟨hd,hrun,hp0,hd0,hp3⟩
  dsimp only at hd hrun hp0 hd0 hp3
  obtain ⟨hla,hll,hw0,hw1⟩:=z264 hg hM hc d (l,w) hd hrun
  dsimp only at hla hll hw0 hw1
  have hw2:w≤2 ^ 40:=by omega
  have hsome:(runSt k M cnt d).isSome=true:=by rw [hrun];rfl
  have hlast:d=M.length→lastD k M cnt M.length=d∧endSt k M cnt=(l,w):=fun he=>by
   have e:lastD k M cnt M.length=d:=by rw [← he];exact z203 hsome
   refine ⟨e,?_⟩
   rw [endSt,e,hrun,if_neg (by omega)]
   rfl
  have hstop:d<M.length→runSt k M cnt (d + 1)=none→lastD k M cnt M.length=d∧endSt k M cnt=clrD k d (l,w):=fun hlt hn=>by
   have e:lastD k M cnt M.length=d:=z372 hsome hn (by omega)
   refine ⟨e,?_⟩
   rw [endSt,e,hrun,if_pos hlt]
   rfl
  have hstep:d<M.length→runSt k M cnt (d + 1)=(takeTo k (ordK k) (needD k M cnt d) (clrD k d (l,w)).1 k.allerg.length).map fun c=>(c,(clrD k d (l,w)).2):=fun _=>by rw [runSt,hrun]
  rcases (by omega:p=0∨p=1∨p=2) with hp | hp | hp
  ·-- phase 0
   subst hp
   obtain ⟨hz0,hl1⟩:=hp0 rfl
   have hLA:=z234 hz0
   simp only [go_sem,nmL,lardRow]
   repeat (first | refine nx ?_ | (refine z10 fun K hK=>?_;simp only [go_sem];apply hK;clear hK K))
   refine z14 rfl (fun hb=>?_) (fun hb=>?_)
   ·have hlt:d<M.length:=by simpa using hb
    have hw:IntKind.i64.wrap ((d:Int) + 1)=((d + 1:Nat):Int):=by rw [z17 (by omega)];simp
    obtain ⟨r,hr⟩:∃ r,M[d]?=some r:=⟨_,List.getElem?_eq_getElem hlt⟩
    obtain ⟨hdd,hrl,hday⟩:=z148 hg hM hc hr
    have g1:=z32 hr
    have hni:¬ ((d:Int)<0):=by omega
    have hnd:needD k M cnt d=needL k r (cnt d):=by rw [needD,List.getD,hr];rfl
    have hst:=hstep hlt
    have hsp:=hstop hlt
    rw [hnd] at hst
    have h86:=z888 k hbl (d:Int) l (ordK k) w hll hla ⟨hw0,hw2⟩
    obtain ⟨c1,c2,c3⟩:=z51 (k:=k) (day:=(d:Int)) (w:=w) hla k.batches.length
    have c4:=z45 k (d:Int) l w k.batches.length
    change runSt k M cnt (d + 1)=(takeTo k (ordK k) (needL k r (cnt d)) (clrTo k (d:Int) l w k.batches.length).1 k.allerg.length).map fun c=>(c,(clrTo k (d:Int) l w k.batches.length).2) at hst
    change runSt k M cnt (d + 1)=none→lastD k M cnt M.length=d∧endSt k M cnt=clrTo k (d:Int) l w k.batches.length at hsp
    obtain ⟨⟨C,v⟩,hC⟩:∃ a,a=clrTo k (d:Int) l w k.batches.length:=⟨_,rfl⟩
    rw [← hC] at h86 c1 c2 c3 c4 hst hsp
    dsimp only at c1 c2 c3 c4 hst
    have hAC:C=A0:=by
     have h0:(l,w)=(amtK k,0):=by rw [hz0] at hrun;exact (Option.some.inj hrun).symm
     rw [hA0,left0,clrD,← h0]
     rw [hz0] at hC
     exact congrArg Prod.fst hC
    subst hAC
    have h87:=(z887 k hg r (cnt d) 84 [.ptr [.fn 56 [.ptr [.sl (listRows N)] 0]] 0,.ptr [.i (d:Int)] 0] hday (fun j hj=>hf84 d j hdd (by omega))).deep
    have h141:=z955 k (needL k r (cnt d)) C (ordK k) v (by omega) hbl c1 (z53 hg hday) (by rw [z43];exact hgo.2) (fun x hx=>z68 hx) (by rw [z95];exact hbl)
    rw [z43] at h141
    simp only [lardRow] at h86
    rw [Kitchen.cells] at h87
    obtain ⟨NE,hNE⟩:∃ NE,NE=needL k r (cnt d):=⟨_,rfl⟩
    rw [← hNE] at h87 h141 hst
    repeat refine nx ?_
    refine z10 fun K hK=>?_
    simp only [go_sem,g1,hni]
    apply hK
    clear hK K
    refine z20 [7] ?_
    simp only [go_sem]
    repeat refine nx ?_
    refine z10 fun K hK=>?_
    simp only [go_sem]
    refine ⟨_,.own (ns:=[33,34,35]) (news:=[]) (bads:=[34,35]) (rd:=[]) (hf:=h86) (hnd:=by decide) (hl0:=rfl) (hl1:=rfl) (hm:=by repeat (first | exact trivial | refine And.intro ?_ ?_ | rfl)) (hnew:=rfl) (hla:=rfl) (ha:=z24 (by repeat (first | exact trivial | refine And.intro ?_ ?_ | exact z27 rfl | exact z21 rfl rfl))) (hrd:=rfl) (hsh:=z22 _) (hb:=rfl) (hfl:=.inl rfl),?_⟩
    simp only [go_sem,List.map_cons,List.map_nil]
    apply hK
    clear hK K
    cases htk:takeTo k (ordK k) NE C k.allerg.length with
    | none =>
     rw [htk] at h141 hst
     obtain ⟨hD,hE⟩:=hsp hst
     simp only [takeBlks,lardRow,Option.isSome_none] at h141
     repeat refine nx ?_
     refine z10 fun K hK=>?_
     simp only [go_sem]
     refine ⟨_,.given (hf:=h87) (hd:=rfl) (ha:=rfl),?_⟩
     simp only [go_sem]
     refine ⟨_,.own (ns:=[33,34,35]) (news:=[]) (bads:=[34,35]) (rd:=[]) (hf:=h141) (hnd:=by decide) (hl0:=rfl) (hl1:=rfl) (hm:=by repeat (first | exact trivial | refine And.intro ?_ ?_ | rfl)) (hnew:=rfl) (hla:=rfl) (ha:=z24 (by repeat (first | exact trivial | refine And.intro ?_ ?_ | exact z27 rfl | exact z21 rfl rfl))) (hrd:=rfl) (hsh:=z22 _) (hb:=rfl) (hfl:=.inl rfl),?_⟩
     simp only [go_sem,List.map_cons,List.map_nil]
     apply hK
     clear hK K
     repeat (first | refine nx ?_ | (refine z10 fun K hK=>?_;simp only [go_sem];apply hK;clear hK K))
     repeat (first | refine z12 rfl ?_ | refine z11 rfl ?_ | refine nx ?_ | (refine z10 fun K hK=>?_;simp only [go_sem];apply hK;clear hK K))
     simp only [go_sem,retG,runBlks,lardRow,hD,hE,hLA,← hA0]
    | some c =>
     rw [htk] at h141 hst
     simp only [takeBlks,lardRow,Option.isSome_some] at h141
     repeat refine nx ?_
     refine z10 fun K hK=>?_
     simp only [go_sem]
     refine ⟨_,.given (hf:=h87) (hd:=rfl) (ha:=rfl),?_⟩
     simp only [go_sem]
     refine ⟨_,.own (ns:=[33,34,35]) (news:=[2]) (bads:=[34,35]) (rd:=[]) (hf:=h141) (hnd:=by decide) (hl0:=rfl) (hl1:=rfl) (hm:=by repeat (first | exact trivial | refine And.intro ?_ ?_ | rfl)) (hnew:=rfl) (hla:=rfl) (ha:=z24 (by repeat (first | exact trivial | refine And.intro ?_ ?_ | exact z27 rfl | exact z21 rfl rfl))) (hrd:=rfl) (hsh:=z22 _) (hb:=rfl) (hfl:=.inl rfl),?_⟩
     simp only [go_sem,List.map_cons,List.map_nil]
     apply hK
     clear hK K
     repeat (first | refine z12 rfl ?_ | refine z11 rfl ?_ | refine nx ?_ | (refine z10 fun K hK=>?_;simp only [go_sem,hw];apply hK;clear hK K))
     refine ⟨rfl,(d + 1,2,c,v),?_,⟨hlt,hst,fun h=>absurd (show 2=0 from h) (by decide),fun h=>absurd (show d + 1=0 from h) (by omega),(by decide:2<3)⟩,by dsimp only;omega⟩
     simp only [go_sem,nmL,lardRow]
     refine weA ?_ ?_ <;> simp
     all_goals first | done | rfl | exact ⟨rfl,rfl⟩ | trace_state
   ·have he:d=M.length:=by (have:¬ d<M.length:=by simpa using hb);omega
    subst he
    exfalso
    omega
  ·-- phase 1
   subst hp
   have hpos:d≠0:=fun h=>by have:=hd0 h;omega
   have hLA:=z112 hpos
   simp only [go_sem,nmL,lardRow]
   repeat (first | refine nx ?_ | (refine z10 fun K hK=>?_;simp only [go_sem];apply hK;clear hK K))
   refine z14 rfl (fun hb=>?_) (fun hb=>?_)
   ·have hlt:d<M.length:=by simpa using hb
    have hw:IntKind.i64.wrap ((d:Int) + 1)=((d + 1:Nat):Int):=by rw [z17 (by omega)];simp
    obtain ⟨r,hr⟩:∃ r,M[d]?=some r:=⟨_,List.getElem?_eq_getElem hlt⟩
    obtain ⟨hdd,hrl,hday⟩:=z148 hg hM hc hr
    have g1:=z32 hr
    have hni:¬ ((d:Int)<0):=by omega
    have hnd:needD k M cnt d=needL k r (cnt d):=by rw [needD,List.getD,hr];rfl
    have hst:=hstep hlt
    have hsp:=hstop hlt
    rw [hnd] at hst
    have h86:=z888 k hbl (d:Int) l (ordK k) w hll hla ⟨hw0,hw2⟩
    obtain ⟨c1,c2,c3⟩:=z51 (k:=k) (day:=(d:Int)) (w:=w) hla k.batches.length
    have c4:=z45 k (d:Int) l w k.batches.length
    change runSt k M cnt (d + 1)=(takeTo k (ordK k) (needL k r (cnt d)) (clrTo k (d:Int) l w k.batches.length).1 k.allerg.length).map fun c=>(c,(clrTo k (d:Int) l w k.batches.length).2) at hst
    change runSt k M cnt (d + 1)=none→lastD k M cnt M.length=d∧endSt k M cnt=clrTo k (d:Int) l w k.batches.length at hsp
    obtain ⟨⟨C,v⟩,hC⟩:∃ a,a=clrTo k (d:Int) l w k.batches.length:=⟨_,rfl⟩
    rw [← hC] at h86 c1 c2 c3 c4 hst hsp
    dsimp only at c1 c2 c3 c4 hst
    have h87:=(z887 k hg r (cnt d) 84 [.ptr [.fn 56 [.ptr [.sl (listRows N)] 0]] 0,.ptr [.i (d:Int)] 0] hday (fun j hj=>hf84 d j hdd (by omega))).deep
    have h141:=z955 k (needL k r (cnt d)) C (ordK k) v (by omega) hbl c1 (z53 hg hday) (by rw [z43];exact hgo.2) (fun x hx=>z68 hx) (by rw [z95];exact hbl)
    rw [z43] at h141
    simp only [lardRow] at h86
    rw [Kitchen.cells] at h87
    obtain ⟨NE,hNE⟩:∃ NE,NE=needL k r (cnt d):=⟨_,rfl⟩
    rw [← hNE] at h87 h141 hst
    repeat refine nx ?_
    refine z10 fun K hK=>?_
    simp only [go_sem,g1,hni]
    apply hK
    clear hK K
    refine z20 [7] ?_
    simp only [go_sem]
    repeat refine nx ?_
    refine z10 fun K hK=>?_
    simp only [go_sem]
    refine ⟨_,.own (ns:=[33,1,35]) (news:=[]) (bads:=[1,35]) (rd:=[]) (hf:=h86) (hnd:=by decide) (hl0:=rfl) (hl1:=rfl) (hm:=by repeat (first | exact trivial | refine And.intro ?_ ?_ | rfl)) (hnew:=rfl) (hla:=rfl) (ha:=z24 (by repeat (first | exact trivial | refine And.intro ?_ ?_ | exact z27 rfl | exact z21 rfl rfl))) (hrd:=rfl) (hsh:=z22 _) (hb:=rfl) (hfl:=.inl rfl),?_⟩
    simp only [go_sem,List.map_cons,List.map_nil]
    apply hK
    clear hK K
    cases htk:takeTo k (ordK k) NE C k.allerg.length with
    | none =>
     rw [htk] at h141 hst
     obtain ⟨hD,hE⟩:=hsp hst
     simp only [takeBlks,lardRow,Option.isSome_none] at h141
     repeat refine nx ?_
     refine z10 fun K hK=>?_
     simp only [go_sem]
     refine ⟨_,.given (hf:=h87) (hd:=rfl) (ha:=rfl),?_⟩
     simp only [go_sem]
     refine ⟨_,.own (ns:=[33,1,35]) (news:=[]) (bads:=[1,35]) (rd:=[]) (hf:=h141) (hnd:=by decide) (hl0:=rfl) (hl1:=rfl) (hm:=by repeat (first | exact trivial | refine And.intro ?_ ?_ | rfl)) (hnew:=rfl) (hla:=rfl) (ha:=z24 (by repeat (first | exact trivial | refine And.intro ?_ ?_ | exact z27 rfl | exact z21 rfl rfl))) (hrd:=rfl) (hsh:=z22 _) (hb:=rfl) (hfl:=.inl rfl),?_⟩
     simp only [go_sem,List.map_cons,List.map_nil]
     apply hK
     clear hK K
     repeat (first | refine nx ?_ | (refine z10 fun K hK=>?_;simp only [go_sem];apply hK;clear hK K))
     refine z20 [1] ?_
     simp only [go_sem]
     repeat (first | refine z12 rfl ?_ | refine z11 rfl ?_ | refine nx ?_ | (refine z10 fun K hK=>?_;simp only [go_sem];apply hK;clear hK K))
     simp only [go_sem,retG,runBlks,lardRow,hD,hE,hLA,← hA0]
    | some c =>
     rw [htk] at h141 hst
     simp only [takeBlks,lardRow,Option.isSome_some] at h141
     repeat refine nx ?_
     refine z10 fun K hK=>?_
     simp only [go_sem]
     refine ⟨_,.given (hf:=h87) (hd:=rfl) (ha:=rfl),?_⟩
     simp only [go_sem]
     refine ⟨_,.own (ns:=[33,1,35]) (news:=[2]) (bads:=[1,35]) (rd:=[]) (hf:=h141) (hnd:=by decide) (hl0:=rfl) (hl1:=rfl) (hm:=by repeat (first | exact trivial | refine And.intro ?_ ?_ | rfl)) (hnew:=rfl) (hla:=rfl) (ha:=z24 (by repeat (first | exact trivial | refine And.intro ?_ ?_ | exact z27 rfl | exact z21 rfl rfl))) (hrd:=rfl) (hsh:=z22 _) (hb:=rfl) (hfl:=.inl rfl),?_⟩
     simp only [go_sem,List.map_cons,List.map_nil]
     apply hK
     clear hK K
     repeat (first | refine z12 rfl ?_ | refine z11 rfl ?_ | refine nx ?_ | (refine z10 fun K hK=>?_;simp only [go_sem,hw];apply hK;clear hK K))
     refine ⟨rfl,(d + 1,2,c,v),?_,⟨hlt,hst,fun h=>absurd (show 2=0 from h) (by decide),fun h=>absurd (show d + 1=0 from h) (by omega),(by decide:2<3)⟩,by dsimp only;omega⟩
     simp only [go_sem,nmL,lardRow]
     refine weA ?_ ?_ <;> simp
     all_goals first | done | rfl | exact ⟨rfl,rfl⟩ | trace_state
   ·have he:d=M.length:=by (have:¬ d<M.length:=by simpa using hb);omega
    subst he
    obtain ⟨hD,hE⟩:=hlast rfl
    refine z20 [1] ?_
    simp only [go_sem]
    repeat (first | refine nx ?_ | (refine z10 fun K hK=>?_;simp only [go_sem];apply hK;clear hK K))
    simp only [go_sem,retG,runBlks,lardRow,hD,hE,hLA,← hA0]
  ·-- phase 2
   subst hp
   have hpos:d≠0:=fun h=>by have:=hd0 h;omega
   have hLA:=z112 hpos
   simp only [go_sem,nmL,lardRow]
   repeat (first | refine nx ?_ | (refine z10 fun K hK=>?_;simp only [go_sem];apply hK;clear hK K))
   refine z14 rfl (fun hb=>?_) (fun hb=>?_)
   ·have hlt:d<M.length:=by simpa using hb
    have hw:IntKind.i64.wrap ((d:Int) + 1)=((d + 1:Nat):Int):=by rw [z17 (by omega)];simp
    obtain ⟨r,hr⟩:∃ r,M[d]?=some r:=⟨_,List.getElem?_eq_getElem hlt⟩
    obtain ⟨hdd,hrl,hday⟩:=z148 hg hM hc hr
    have g1:=z32 hr
    have hni:¬ ((d:Int)<0):=by omega
    have hnd:needD k M cnt d=needL k r (cnt d):=by rw [needD,List.getD,hr];rfl
    have hst:=hstep hlt
    have hsp:=hstop hlt
    rw [hnd] at hst
    have h86:=z888 k hbl (d:Int) l (ordK k) w hll hla ⟨hw0,hw2⟩
    obtain ⟨c1,c2,c3⟩:=z51 (k:=k) (day:=(d:Int)) (w:=w) hla k.batches.length
    have c4:=z45 k (d:Int) l w k.batches.length
    change runSt k M cnt (d + 1)=(takeTo k (ordK k) (needL k r (cnt d)) (clrTo k (d:Int) l w k.batches.length).1 k.allerg.length).map fun c=>(c,(clrTo k (d:Int) l w k.batches.length).2) at hst
    change runSt k M cnt (d + 1)=none→lastD k M cnt M.length=d∧endSt k M cnt=clrTo k (d:Int) l w k.batches.length at hsp
    obtain ⟨⟨C,v⟩,hC⟩:∃ a,a=clrTo k (d:Int) l w k.batches.length:=⟨_,rfl⟩
    rw [← hC] at h86 c1 c2 c3 c4 hst hsp
    dsimp only at c1 c2 c3 c4 hst
    have h87:=(z887 k hg r (cnt d) 84 [.ptr [.fn 56 [.ptr [.sl (listRows N)] 0]] 0,.ptr [.i (d:Int)] 0] hday (fun j hj=>hf84 d j hdd (by omega))).deep
    have h141:=z955 k (needL k r (cnt d)) C (ordK k) v (by omega) hbl c1 (z53 hg hday) (by rw [z43];exact hgo.2) (fun x hx=>z68 hx) (by rw [z95];exact hbl)
    rw [z43] at h141
    simp only [lardRow] at h86
    rw [Kitchen.cells] at h87
    obtain ⟨NE,hNE⟩:∃ NE,NE=needL k r (cnt d):=⟨_,rfl⟩
    rw [← hNE] at h87 h141 hst
    repeat refine nx ?_
    refine z10 fun K hK=>?_
    simp only [go_sem,g1,hni]
    apply hK
    clear hK K
    refine z20 [7] ?_
    simp only [go_sem]
    repeat refine nx ?_
    refine z10 fun K hK=>?_
    simp only [go_sem]
    refine ⟨_,.own (ns:=[33,2,35]) (news:=[]) (bads:=[2,35]) (rd:=[]) (hf:=h86) (hnd:=by decide) (hl0:=rfl) (hl1:=rfl) (hm:=by repeat (first | exact trivial | refine And.intro ?_ ?_ | rfl)) (hnew:=rfl) (hla:=rfl) (ha:=z24 (by repeat (first | exact trivial | refine And.intro ?_ ?_ | exact z27 rfl | exact z21 rfl rfl))) (hrd:=rfl) (hsh:=z22 _) (hb:=rfl) (hfl:=.inl rfl),?_⟩
    simp only [go_sem,List.map_cons,List.map_nil]
    apply hK
    clear hK K
    cases htk:takeTo k (ordK k) NE C k.allerg.length with
    | none =>
     rw [htk] at h141 hst
     obtain ⟨hD,hE⟩:=hsp hst
     simp only [takeBlks,lardRow,Option.isSome_none] at h141
     repeat refine nx ?_
     refine z10 fun K hK=>?_
     simp only [go_sem]
     refine ⟨_,.given (hf:=h87) (hd:=rfl) (ha:=rfl),?_⟩
     simp only [go_sem]
     refine ⟨_,.own (ns:=[33,2,35]) (news:=[]) (bads:=[2,35]) (rd:=[]) (hf:=h141) (hnd:=by decide) (hl0:=rfl) (hl1:=rfl) (hm:=by repeat (first | exact trivial | refine And.intro ?_ ?_ | rfl)) (hnew:=rfl) (hla:=rfl) (ha:=z24 (by repeat (first | exact trivial | refine And.intro ?_ ?_ | exact z27 rfl | exact z21 rfl rfl))) (hrd:=rfl) (hsh:=z22 _) (hb:=rfl) (hfl:=.inl rfl),?_⟩
     simp only [go_sem,List.map_cons,List.map_nil]
     apply hK
     clear hK K
     repeat (first | refine nx ?_ | (refine z10 fun K hK=>?_;simp only [go_sem];apply hK;clear hK K))
     refine z20 [2] ?_
     simp only [go_sem]
     repeat (first | refine z12 rfl ?_ | refine z11 rfl ?_ | refine nx ?_ | (refine z10 fun K hK=>?_;simp only [go_sem];apply hK;clear hK K))
     simp only [go_sem,retG,runBlks,lardRow,hD,hE,hLA,← hA0]
    | some c =>
     rw [htk] at h141 hst
     simp only [takeBlks,lardRow,Option.isSome_some] at h141
     repeat refine nx ?_
     refine z10 fun K hK=>?_
     simp only [go_sem]
     refine ⟨_,.given (hf:=h87) (hd:=rfl) (ha:=rfl),?_⟩
     simp only [go_sem]
     refine ⟨_,.own (ns:=[33,2,35]) (news:=[1]) (bads:=[2,35]) (rd:=[]) (hf:=h141) (hnd:=by decide) (hl0:=rfl) (hl1:=rfl) (hm:=by repeat (first | exact trivial | refine And.intro ?_ ?_ | rfl)) (hnew:=rfl) (hla:=rfl) (ha:=z24 (by repeat (first | exact trivial | refine And.intro ?_ ?_ | exact z27 rfl | exact z21 rfl rfl))) (hrd:=rfl) (hsh:=z22 _) (hb:=rfl) (hfl:=.inl rfl),?_⟩
     simp only [go_sem,List.map_cons,List.map_nil]
     apply hK
     clear hK K
     repeat (first | refine z12 rfl ?_ | refine z11 rfl ?_ | refine nx ?_ | (refine z10 fun K hK=>?_;simp only [go_sem,hw];apply hK;clear hK K))
     refine ⟨rfl,(d + 1,1,c,v),?_,⟨hlt,hst,fun h=>absurd (show 1=0 from h) (by decide),fun h=>absurd (show d + 1=0 from h) (by omega),(by decide:1<3)⟩,by dsimp only;omega⟩
     simp only [go_sem,nmL,lardRow]
     refine weA ?_ ?_ <;> simp
     all_goals first | done | rfl | exact ⟨rfl,rfl⟩ | trace_state
   ·have he:d=M.length:=by (have:¬ d<M.length:=by simpa using hb);omega
    subst he
    obtain ⟨hD,hE⟩:=hlast rfl
    refine z20 [2] ?_
    simp only [go_sem]
    repeat (first | refine nx ?_ | (refine z10 fun K hK=>?_;simp only [go_sem];apply hK;clear hK K))
    simp only [go_sem,retG,runBlks,lardRow,hD,hE,hLA,← hA0]
end Go.Ab
namespace Go.Ab
open Go.RowKit Go.Proofs
set_option maxHeartbeats 16000000
set_option maxRecDepth 20000
attribute [local irreducible] WalkL Walk
def cookE (k:Kitchen) (M C:List (List Int)):Int:=if openK k M=0 then (if shapedB countB C k.days then 0 else 72) else openK k M
def cookP (k:Kitchen) (M C:List (List Int)):List Int × Int × Nat × Int :=
 if cookE k M C=0 then ((endSt k M (cntOf C)).1,(endSt k M (cntOf C)).2,lastD k M (cntOf C) M.length,0) else ([],0,0,cookE k M C)
theorem z515 {k:Kitchen} {M:List (List Int)} (h0:openK k M=0):KitGood k∧shapedB (menuB k) M k.days=true:=by
 unfold openK at h0
 split at h0
 ·rename_i hz
  split at h0
  ·exact ⟨z173 (z160.1 hz),by assumption⟩
  ·cases h0
 ·contradiction
theorem z1058 (k:Kitchen) (M C:List (List Int)) (hs:KitSmall k) (hM:M.length<2 ^ 30) (hMr:∀ r ∈ M,r.length<2 ^ 30) (hC:C.length<2 ^ 30) (hCr:∀ r ∈ C,r.length<2 ^ 30) :
  Fn Try.prog 25 [.agg k.cells,.sl (listRows M),.sl (listRows C)] (.tup [.sl (intRows (cookP k M C).1),.i (cookP k M C).2.1,.i ((cookP k M C).2.2.1:Nat),.i (cookP k M C).2.2.2]):=by
 have h48:=z1033 k M hs hM hMr
 unfold cookP cookE
 by_cases h0:¬ openK k M=0
 ·have hb:(openK k M == 0)=false:=by simpa using h0
  have hb2:(openK k M != 0)=true:=by simpa using h0
  rw [if_neg h0,if_neg h0]
  rw [Kitchen.cells] at h48 ⊢
  dsimp only
  refine z18 44 Try.call25 Try.func25 rfl (by decide) fun J=>?_
  simp only [go_sem,St.start,Try.ntmps25,Try.results25]
  repeat (first | refine z12 rfl ?_ | refine z11 rfl ?_ | refine nx ?_ | (refine z10 fun K hK=>?_;simp only [go_sem,hb,hb2];(repeat (first | (refine ⟨_,.lent (hf:=h48) (hd:=rfl) (hr:=rfl),?_⟩;simp only [go_sem,hb,hb2]) | (refine ⟨_,.given (hf:=h48) (hd:=rfl) (ha:=rfl),?_⟩;simp only [go_sem,hb,hb2])));apply hK;clear hK K))
  simp only [go_sem,intRows,List.map_nil]
 have h0:openK k M=0:=Decidable.not_not.1 h0
 obtain ⟨hg,hsh⟩:=z515 h0
 have h52:=z1032 k hg C hC hCr
 rw [if_pos h0]
 rw [h0] at h48
 cases hc:shapedB countB C k.days with
 | false =>
  rw [hc] at h52
  rw [if_neg (by decide:¬ (if false=true then (0:Int) else 72)=0),if_neg (by decide:¬ false=true)]
  rw [Kitchen.cells] at h48 h52 ⊢
  refine z18 44 Try.call25 Try.func25 rfl (by decide) fun J=>?_
  simp only [go_sem,St.start,Try.ntmps25,Try.results25]
  repeat (first | refine z12 rfl ?_ | refine z11 rfl ?_ | refine nx ?_ | (refine z10 fun K hK=>?_;simp only [go_sem];(repeat (first | (refine ⟨_,.lent (hf:=h48) (hd:=rfl) (hr:=rfl),?_⟩;simp only [go_sem]) | (refine ⟨_,.lent (hf:=h52) (hd:=rfl) (hr:=rfl),?_⟩;simp only [go_sem]) | (refine ⟨_,.given (hf:=h48) (hd:=rfl) (ha:=rfl),?_⟩;simp only [go_sem]) | (refine ⟨_,.given (hf:=h52) (hd:=rfl) (ha:=rfl),?_⟩;simp only [go_sem])));apply hK;clear hK K))
  simp only [go_sem,intRows,List.map_nil]
 | true =>
  rw [hc] at h52
  rw [if_pos rfl,if_pos rfl]
  have h55:=z1030 k hg M hsh C hc
  have h41:FnG Try.prog 41 [] [] (List.map AV.d [.agg k.cells]) _ _:=z1000 k hg.batches
  have hlen:=hg.days
  have hMl:=z38 hsh
  obtain ⟨D,hD⟩:∃ D,D=lastD k M (cntOf C) M.length:=⟨_,rfl⟩
  have he0:D=0→(endSt k M (cntOf C)).1=left0 k:=fun h=>by
   rw [endSt,← hD,h,if_pos (by omega)]
   rfl
  rw [runBlks,← hD] at h55
  rw [← hD]
  obtain ⟨⟨EL,EW⟩,hE⟩:∃ e,e=endSt k M (cntOf C):=⟨_,rfl⟩
  rw [← hE] at h55 he0 ⊢
  dsimp only at h55 he0 ⊢
  simp only [lardRow] at h41 h55
  rw [Kitchen.cells] at h41 h48 h52 ⊢
  by_cases hz:D=0
  ·rw [z234 hz] at h55
   rw [← he0 hz] at h55
   refine z18 44 Try.call25 Try.func25 rfl (by decide) fun J=>?_
   simp only [go_sem,St.start,Try.ntmps25,Try.results25]
   repeat refine nx ?_
   refine z10 fun K hK=>?_
   simp only [go_sem]
   apply hK
   clear hK K
   refine z20 [5] ?_
   simp only [go_sem]
   repeat (first | refine z12 rfl ?_ | refine z11 rfl ?_ | refine nx ?_ | (refine z10 fun K hK=>?_;simp only [go_sem];(repeat (first | (refine ⟨_,.lent (hf:=h48) (hd:=rfl) (hr:=rfl),?_⟩;simp only [go_sem]) | (refine ⟨_,.lent (hf:=h52) (hd:=rfl) (hr:=rfl),?_⟩;simp only [go_sem]) | (refine ⟨_,.given (hf:=h48) (hd:=rfl) (ha:=rfl),?_⟩;simp only [go_sem]) | (refine ⟨_,.given (hf:=h52) (hd:=rfl) (ha:=rfl),?_⟩;simp only [go_sem])));apply hK;clear hK K))
   refine z10 fun K hK=>?_
   simp only [go_sem]
   refine ⟨_,.made (news:=[30,16,17]) (hf:=h41) (hd:=rfl) (hn:=by decide) (hl:=rfl) (hnew:=rfl) (hx:=rfl),?_⟩
   simp only [go_sem,List.map_cons,List.map_nil]
   apply hK
   clear hK K
   repeat refine nx ?_
   refine z10 fun K hK=>?_
   simp only [go_sem]
   refine ⟨_,.own (ns:=[30,16,17]) (news:=[]) (bads:=[16,17]) (rd:=[]) (hf:=h55) (hnd:=by decide) (hl0:=rfl) (hl1:=rfl) (hm:=by repeat (first | exact trivial | refine And.intro ?_ ?_ | rfl)) (hnew:=rfl) (hla:=rfl) (ha:=z24 (by repeat (first | exact trivial | refine And.intro ?_ ?_ | exact z27 rfl | exact z21 rfl rfl))) (hrd:=rfl) (hsh:=z22 _) (hb:=rfl) (hfl:=.inl rfl),?_⟩
   simp only [go_sem,List.map_cons,List.map_nil]
   apply hK
   clear hK K
   repeat refine nx ?_
   refine z16 (by kernel_rfl) (by kernel_rfl) fun K hK=>?_
   simp only [go_sem]
   refine ⟨by kernel_rfl,hK _ ?_⟩
   clear hK K
   repeat (first | refine nx ?_ | (refine z10 fun K hK=>?_;simp only [go_sem];apply hK;clear hK K))
   simp only [go_sem]
  ·rw [z112 hz] at h55
   refine z18 44 Try.call25 Try.func25 rfl (by decide) fun J=>?_
   simp only [go_sem,St.start,Try.ntmps25,Try.results25]
   repeat refine nx ?_
   refine z10 fun K hK=>?_
   simp only [go_sem]
   apply hK
   clear hK K
   refine z20 [5] ?_
   simp only [go_sem]
   repeat (first | refine z12 rfl ?_ | refine z11 rfl ?_ | refine nx ?_ | (refine z10 fun K hK=>?_;simp only [go_sem];(repeat (first | (refine ⟨_,.lent (hf:=h48) (hd:=rfl) (hr:=rfl),?_⟩;simp only [go_sem]) | (refine ⟨_,.lent (hf:=h52) (hd:=rfl) (hr:=rfl),?_⟩;simp only [go_sem]) | (refine ⟨_,.given (hf:=h48) (hd:=rfl) (ha:=rfl),?_⟩;simp only [go_sem]) | (refine ⟨_,.given (hf:=h52) (hd:=rfl) (ha:=rfl),?_⟩;simp only [go_sem])));apply hK;clear hK K))
   refine z10 fun K hK=>?_
   simp only [go_sem]
   refine ⟨_,.made (news:=[30,16,17]) (hf:=h41) (hd:=rfl) (hn:=by decide) (hl:=rfl) (hnew:=rfl) (hx:=rfl),?_⟩
   simp only [go_sem,List.map_cons,List.map_nil]
   apply hK
   clear hK K
   repeat refine nx ?_
   refine z10 fun K hK=>?_
   simp only [go_sem]
   refine ⟨_,.own (ns:=[30,16,17]) (news:=[]) (bads:=[16,17]) (rd:=[]) (hf:=h55) (hnd:=by decide) (hl0:=rfl) (hl1:=rfl) (hm:=by repeat (first | exact trivial | refine And.intro ?_ ?_ | rfl)) (hnew:=rfl) (hla:=rfl) (ha:=z24 (by repeat (first | exact trivial | refine And.intro ?_ ?_ | exact z27 rfl | exact z21 rfl rfl))) (hrd:=rfl) (hsh:=z22 _) (hb:=rfl) (hfl:=.inl rfl),?_⟩
   simp only [go_sem,List.map_cons,List.map_nil]
   apply hK
   clear hK K
   repeat refine nx ?_
   refine z16 (by kernel_rfl) (by kernel_rfl) fun K hK=>?_
   simp only [go_sem]
   refine ⟨by kernel_rfl,hK _ ?_⟩
   clear hK K
   repeat (first | refine nx ?_ | (refine z10 fun K hK=>?_;simp only [go_sem];apply hK;clear hK K))
   simp only [go_sem]
theorem z1037 (a b:List Int) (ha:a.length<2 ^ 30):Fn Try.prog 21 [.sl (intRows a),.sl (intRows b)] (.bool (decide (a=b))):=by
 refine z18 26 Try.call21 Try.func21 rfl (by decide) fun J=>?_
 simp only [go_sem,St.start,Try.ntmps21,Try.results21]
 repeat (first | refine nx ?_ | (refine z10 fun K hK=>?_;simp only [go_sem,z13];apply hK;clear hK K))
 by_cases hl:a.length=b.length
 ·have hne:((a.length:Int) != (b.length:Int))=false:=by simp [hl]
  simp only [go_sem,hne]
  refine z11 rfl ?_
  repeat (first | refine nx ?_ | (refine z10 fun K hK=>?_;simp only [go_sem];apply hK;clear hK K))
  refine z15 (fun (i:Nat)=>[(5,.d (.i i))]) (fun _=>[]) (fun i=>i≤a.length∧a.take i=b.take i) (fun i=>a.length - i) 0 ?_ ⟨Nat.zero_le _,by simp⟩ ?_
  ·simp only [go_sem]
   refine weA ?_ ?_ <;> simp
  ·intro i ⟨hi,heq⟩
   simp only [go_sem]
   repeat (first | refine nx ?_ | (refine z10 fun K hK=>?_;simp only [go_sem,z13];apply hK;clear hK K))
   refine z14 rfl (fun hb=>?_) (fun hb=>?_)
   ·have hlt:i<a.length:=by simpa using hb
    have hw:IntKind.i64.wrap ((i:Int) + 1)=((i + 1:Nat):Int):=by rw [z17 (by omega)];simp
    obtain ⟨x,hx⟩:∃ x,a[i]?=some x:=⟨_,List.getElem?_eq_getElem hlt⟩
    obtain ⟨y,hy⟩:∃ y,b[i]?=some y:=⟨_,List.getElem?_eq_getElem (hl ▸ hlt)⟩
    have g1:=z35 hx
    have g2:=z35 hy
    repeat (first | refine nx ?_ | (refine z10 fun K hK=>?_;simp only [go_sem];apply hK;clear hK K))
    refine z16 (by kernel_rfl) (by kernel_rfl) fun K hK=>?_
    simp only [go_sem,g1,g2]
    refine ⟨by kernel_rfl,hK _ ?_⟩
    clear hK K
    refine z14 rfl (fun hc=>?_) (fun hc=>?_)
    ·have hc:¬ x=y:=by simpa using hc
     have hab:¬ a=b:=by rintro rfl;rw [hx] at hy;cases hy;exact hc rfl
     repeat (first | refine nx ?_ | (refine z10 fun K hK=>?_;simp only [go_sem];apply hK;clear hK K))
     simp only [go_sem,hab]
    ·have hc:x=y:=by simpa using hc
     repeat (first | refine nx ?_ | (refine z10 fun K hK=>?_;simp only [go_sem,hw];apply hK;clear hK K))
     refine ⟨rfl,i + 1,?_,⟨hlt,by rw [List.take_add_one,List.take_add_one,heq,hx,hy,hc]⟩,by omega⟩
     refine weA ?_ ?_ <;> simp
   ·have he:i=a.length:=by (have:¬ i<a.length:=by simpa using hb);omega
    subst he
    have hab:a=b:=z292 hl heq
    repeat (first | refine nx ?_ | (refine z10 fun K hK=>?_;simp only [go_sem];apply hK;clear hK K))
    simp only [go_sem,hab]
 ·have hne:((a.length:Int) != (b.length:Int))=true:=by simp;omega
  have hab:¬ a=b:=by rintro rfl;exact hl rfl
  simp only [go_sem,hne]
  refine z12 rfl ?_
  repeat (first | refine nx ?_ | (refine z10 fun K hK=>?_;simp only [go_sem];apply hK;clear hK K))
  simp only [go_sem,hab]
theorem z285 {a b:List (List Int)} (hl:a.length=b.length) (h:a.take a.length=b.take a.length):a=b:=by
 rw [List.take_length,hl,List.take_length] at h
 exact h
theorem z1102 (a b:List (List Int)) (ha:a.length<2 ^ 30) (har:∀ r ∈ a,r.length<2 ^ 30):Fn Try.prog 20 [.sl (listRows a),.sl (listRows b)] (.bool (decide (a=b))):=by
 refine z18 27 Try.call20 Try.func20 rfl (by decide) fun J=>?_
 simp only [go_sem,St.start,Try.ntmps20,Try.results20]
 repeat (first | refine nx ?_ | (refine z10 fun K hK=>?_;simp only [go_sem,z25];apply hK;clear hK K))
 by_cases hl:a.length=b.length
 ·have hne:((a.length:Int) != (b.length:Int))=false:=by simp [hl]
  simp only [go_sem,hne]
  refine z11 rfl ?_
  repeat (first | refine nx ?_ | (refine z10 fun K hK=>?_;simp only [go_sem];apply hK;clear hK K))
  refine z15 (fun (i:Nat)=>[(5,.d (.i i))]) (fun _=>[]) (fun i=>i≤a.length∧a.take i=b.take i) (fun i=>a.length - i) 0 ?_ ⟨Nat.zero_le _,by simp⟩ ?_
  ·simp only [go_sem]
   refine weA ?_ ?_ <;> simp
  ·intro i ⟨hi,heq⟩
   simp only [go_sem]
   repeat (first | refine nx ?_ | (refine z10 fun K hK=>?_;simp only [go_sem,z25];apply hK;clear hK K))
   refine z14 rfl (fun hb=>?_) (fun hb=>?_)
   ·have hlt:i<a.length:=by simpa using hb
    have hw:IntKind.i64.wrap ((i:Int) + 1)=((i + 1:Nat):Int):=by rw [z17 (by omega)];simp
    obtain ⟨x,hx⟩:∃ x,a[i]?=some x:=⟨_,List.getElem?_eq_getElem hlt⟩
    obtain ⟨y,hy⟩:∃ y,b[i]?=some y:=⟨_,List.getElem?_eq_getElem (hl ▸ hlt)⟩
    have g1:=z32 hx
    have g2:=z32 hy
    have h21:=z1037 x y (har x (List.mem_of_getElem? hx))
    by_cases hc:x=y
    ·have hd:decide (x=y)=true:=decide_eq_true hc
     rw [hd] at h21
     repeat (first | refine nx ?_ | (refine z10 fun K hK=>?_;simp only [go_sem];apply hK;clear hK K))
     refine z16 (by kernel_rfl) (by kernel_rfl) fun K hK=>?_
     simp only [go_sem,g1,g2]
     refine ⟨_,.fn (hf:=h21) (hd:=rfl) (hr:=.inl rfl),?_⟩
     simp only [go_sem]
     refine ⟨by kernel_rfl,hK _ ?_⟩
     clear hK K
     repeat (first | refine z12 rfl ?_ | refine z11 rfl ?_ | refine nx ?_ | (refine z10 fun K hK=>?_;simp only [go_sem,hw];apply hK;clear hK K))
     refine ⟨rfl,i + 1,?_,⟨hlt,by rw [List.take_add_one,List.take_add_one,heq,hx,hy,hc]⟩,by omega⟩
     refine weA ?_ ?_ <;> simp
    ·have hd:decide (x=y)=false:=decide_eq_false hc
     rw [hd] at h21
     have hab:¬ a=b:=by rintro rfl;rw [hx] at hy;cases hy;exact hc rfl
     repeat (first | refine nx ?_ | (refine z10 fun K hK=>?_;simp only [go_sem];apply hK;clear hK K))
     refine z16 (by kernel_rfl) (by kernel_rfl) fun K hK=>?_
     simp only [go_sem,g1,g2]
     refine ⟨_,.fn (hf:=h21) (hd:=rfl) (hr:=.inl rfl),?_⟩
     simp only [go_sem]
     refine ⟨by kernel_rfl,hK _ ?_⟩
     clear hK K
     repeat (first | refine z12 rfl ?_ | refine z11 rfl ?_ | refine nx ?_ | (refine z10 fun K hK=>?_;simp only [go_sem];apply hK;clear hK K))
     simp only [go_sem,hab]
   ·have he:i=a.length:=by (have:¬ i<a.length:=by simpa using hb);omega
    subst he
    have hab:a=b:=z285 hl heq
    repeat (first | refine nx ?_ | (refine z10 fun K hK=>?_;simp only [go_sem];apply hK;clear hK K))
    simp only [go_sem,hab]
 ·have hne:((a.length:Int) != (b.length:Int))=true:=by simp;omega
  have hab:¬ a=b:=by rintro rfl;exact hl rfl
  simp only [go_sem,hne]
  refine z12 rfl ?_
  repeat (first | refine nx ?_ | (refine z10 fun K hK=>?_;simp only [go_sem];apply hK;clear hK K))
  simp only [go_sem,hab]
end Go.Ab
namespace Go.Ab
open Go.RowKit Go.Proofs
set_option maxHeartbeats 16000000
set_option maxRecDepth 20000
attribute [local irreducible] WalkL Walk
theorem z946:cookP exK exM [[2,1],[2,1],[2,1]]=([0,100,1100],200,3,0):=by decide +kernel
theorem z988:kitE exK=0:=by decide +kernel
theorem z872:(planL exK 3).2=[[0,1],[0,1],[1,1]]:=by decide +kernel
theorem z870:wasteK exK=0:=by decide +kernel
theorem z944:planK exK=([[0,1],[0,1],[1,1]],0,0):=by
 have e:exK.days.length=3:=rfl
 rw [planK,if_pos z988,z870,if_neg (by decide),e,z872]
theorem z1105:Fn Try.prog 13 [] (.bool true):=by
 have h39:=z1096
 have h25:=z1058 exK exM [[2,1],[2,1],[2,1]] z307 (by decide) (by decide) (by decide) (by decide)
 have h17:=z1103 exK exM z307 (by decide) (by decide)
 have h15:=z1104 exK z307
 have h21a:=z1037 [0,100,1100] [0,100,1100] (by decide)
 have h21b:=z1037 [300,0] [300,0] (by decide)
 have h20:=z1102 [[0,1],[0,1],[1,1]] [[0,1],[0,1],[1,1]] (by decide) (by decide)
 rw [z946] at h25
 rw [z944] at h15
 rw [z945,if_pos rfl,z871] at h17
 rw [show decide (([0,100,1100]:List Int)=[0,100,1100])=true by decide] at h21a
 rw [show decide (([300,0]:List Int)=[300,0])=true by decide] at h21b
 rw [show decide (([[0,1],[0,1],[1,1]]:List (List Int))=[[0,1],[0,1],[1,1]])=true by decide] at h20
 rw [Kitchen.cells] at h39 h25 h17 h15
 refine z18 80 Try.call13 Try.func13 rfl (by decide) fun J=>?_
 simp only [go_sem,St.start,Try.ntmps13,Try.results13]
 repeat (first | refine z12 rfl ?_ | refine z11 rfl ?_ | refine nx ?_ | (refine z10 fun K hK=>?_;simp only [go_sem];(repeat (first | (refine ⟨_,.lent (hf:=h39) (hd:=rfl) (hr:=rfl),?_⟩;simp only [go_sem]) | (refine ⟨_,.lent (hf:=h25) (hd:=rfl) (hr:=rfl),?_⟩;simp only [go_sem]) | (refine ⟨_,.lent (hf:=h17) (hd:=rfl) (hr:=rfl),?_⟩;simp only [go_sem]) | (refine ⟨_,.lent (hf:=h15) (hd:=rfl) (hr:=rfl),?_⟩;simp only [go_sem]) | (refine ⟨_,.lent (hf:=h21a) (hd:=rfl) (hr:=rfl),?_⟩;simp only [go_sem]) | (refine ⟨_,.lent (hf:=h21b) (hd:=rfl) (hr:=rfl),?_⟩;simp only [go_sem]) | (refine ⟨_,.lent (hf:=h20) (hd:=rfl) (hr:=rfl),?_⟩;simp only [go_sem]) | (refine ⟨_,.given (hf:=h39) (hd:=rfl) (ha:=rfl),?_⟩;simp only [go_sem]) | (refine ⟨_,.given (hf:=h25) (hd:=rfl) (ha:=rfl),?_⟩;simp only [go_sem]) | (refine ⟨_,.given (hf:=h17) (hd:=rfl) (ha:=rfl),?_⟩;simp only [go_sem]) | (refine ⟨_,.given (hf:=h15) (hd:=rfl) (ha:=rfl),?_⟩;simp only [go_sem]) | (refine ⟨_,.given (hf:=h21a) (hd:=rfl) (ha:=rfl),?_⟩;simp only [go_sem]) | (refine ⟨_,.given (hf:=h21b) (hd:=rfl) (ha:=rfl),?_⟩;simp only [go_sem]) | (refine ⟨_,.given (hf:=h20) (hd:=rfl) (ha:=rfl),?_⟩;simp only [go_sem])));apply hK;clear hK K))
 simp only [go_sem]
end Go.Ab
