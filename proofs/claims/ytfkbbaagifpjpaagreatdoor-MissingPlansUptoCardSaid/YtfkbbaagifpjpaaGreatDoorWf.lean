/- A walk engine over abstract states, and the contracts of the functions that the statement reaches: part 6. -/
import Derived.Test.YtfkbbaagifpjpaaGreatDoorWe
set_option linter.unusedVariables false
set_option linter.unusedSimpArgs false
set_option linter.unnecessarySimpa false
namespace Go.Ab
open Go.RowKit Go.Proofs
set_option maxHeartbeats 16000000
set_option maxRecDepth 20000
attribute [local irreducible] WalkL Walk
def entsP (v:Nat × Nat→Int):List (Nat × Nat)→Nat→List (MK × DV × Nat)
 | [],_=>[]
 | q::l,k=>(keyB q.1 q.2,.i (v q),k)::entsP v l (k + 1)
theorem z490 {v:Nat × Nat→Int} {q:Nat × Nat}:∀ {l:List (Nat × Nat)} {k i:Nat},q ∈ l→∃ j b,findE (entsP v l k) (keyB q.1 q.2) i=some (j,.i (v q),b)
 | [],_,_,h=>by simp at h
 | x::l,k,i,h=>by
  rw [entsP,findE]
  by_cases hx:q=x
  ·rw [if_pos (by rw [hx]),hx];exact⟨_,_,rfl⟩
  ·rw [if_neg (by rw [z892];exact fun e=>hx (by cases q;cases x;simpa using e))]
   exact z490 ((List.mem_cons.1 h).resolve_left hx)
theorem z489 {v:Nat × Nat→Int} {q:Nat × Nat}:∀ {l:List (Nat × Nat)} {k i:Nat},q ∉ l→findE (entsP v l k) (keyB q.1 q.2) i=none
 | [],_,_,_=>rfl
 | x::l,k,i,h=>by
  rw [entsP,findE,if_neg (by rw [z892];exact fun e=>h (by simp [show q=x by cases q;cases x;simpa using e]))]
  exact z489 fun hc=>h (by simp [hc])
theorem z488 (v:Nat × Nat→Int) (q:Nat × Nat):∀ (l:List (Nat × Nat)) (k:Nat),entsP v (l++[q]) k=entsP v l k++[(keyB q.1 q.2,.i (v q),k + l.length)]
 | [],k=>by simp [entsP]
 | x::l,k=>by
  rw [List.cons_append,entsP,z488 v q l,entsP,List.length_cons,show k + 1 + l.length=k + (l.length + 1) by omega]
  rfl
def pairsD (u:Nat):List (Nat × Nat):=(List.range u).flatMap fun s=>(elems s).map fun i=>(i,s)
def pairsAt (u j:Nat):List (Nat × Nat):=pairsD u++((elems u).take j).map fun i=>(i,u)
theorem z690 (u:Nat):pairsAt u 0=pairsD u:=by simp [pairsAt]
theorem z312 {u j i:Nat} (h:(elems u)[j]?=some i):pairsAt u (j + 1)=pairsAt u j++[(i,u)]:=by
 rw [pairsAt,pairsAt,List.take_add_one,h,List.map_append]
 simp
theorem z884 (u:Nat):pairsAt u (elems u).length=pairsD (u + 1):=by
 rw [pairsAt,List.take_length,pairsD,pairsD,List.range_succ,List.flatMap_append]
 simp
theorem z1024 {u i s:Nat} (hs:s<u) (hi:i ∈ elems s):(i,s) ∈ pairsD u:=by
 rw [pairsD,List.mem_flatMap]
 exact⟨s,List.mem_range.2 hs,List.mem_map.2 ⟨i,hi,rfl⟩⟩
theorem z883 {u j i:Nat} (h:(elems u)[j]?=some i):(i,u) ∉ pairsAt u j:=by
 intro hc
 rcases List.mem_append.1 hc with hc | hc
 ·rw [pairsD,List.mem_flatMap] at hc
  obtain⟨s,hs,hm⟩:=hc
  obtain⟨x,_,hx⟩:=List.mem_map.1 hm
  have:=congrArg Prod.snd hx
  have:=List.mem_range.1 hs
  dsimp only at *
  omega
 ·obtain⟨x,hx,he⟩:=List.mem_map.1 hc
  have hxi:x=i:=congrArg Prod.fst he
  subst hxi
  obtain⟨a,ha⟩:=List.mem_iff_getElem?.1 hx
  rw [List.getElem?_take] at ha
  split at ha
  ·rename_i hlt
   have:=z129 (z906 u) ha h
   omega
  ·cases ha
def lstepV (F:Mat) (S:List SpotT) (b bf last:Nat) (a:Int) (i:Nat):Int:=min a (wr (doneV F S b 5 bf i + minW F S (nextP S i) last))
theorem z1218 (F:Mat) (S:List SpotT) (b:Nat) {u i:Nat} (hu:u<32) (hi:i ∈ elems u):(elems (u - 2 ^ i)).foldl (lstepV F S b (u - 2 ^ i) i) (if u - 2 ^ i=0 then minW F S b i else farW)=doneV F S b 5 u i:=by
 have e:doneV F S b 5 u i=if u - 2 ^ i=0 then minW F S b i else (elems (u - 2 ^ i)).foldl (fun a j=>min a (wr (doneV F S b 4 (u - 2 ^ i) j + minW F S (nextP S j) i))) farW:=rfl
 rw [e]
 by_cases h0:u - 2 ^ i=0
 ·rw [if_pos h0,if_pos h0,h0,z30];rfl
 ·rw [if_neg h0,if_neg h0]
  refine z137 _ _ fun a j hj=>?_
  obtain⟨u1,u2,_⟩:=z25 hu hi
  rw [lstepV,z498 5 4 (u - 2 ^ i) j u1 hj (z19 _ u1) (by have:=z19 u hu;omega)]
theorem z1155 {α:Type} (q:α→Bool) {l:List α} {j:Nat} {x:α} (h:l[j]?=some x):(l.take (j + 1)).any q=((l.take j).any q || q x):=by
 rw [List.take_add_one,h,List.any_append]
 simp
def mostC (n:Net) (p:Party) (F:Mat) (base:Int) (S:List SpotT) (mi:Int):Int × Int :=
 if readyE n p [base] S≠0 then (0,readyE n p [base] S) else if withinB mi 0 2880=true then (mostV F S base.toNat mi,0) else (0,1)
theorem z1415 (n:Net) (p:Party) (F:Mat) (base:Int) (S:List SpotT) (mi:Int) (hs:n.Small) (hl:S.length≤5∨readyE n p [base] S≠0) (hl2:S.length<2 ^ 30) (hF:readyE n p [base] S=0→matM n.places.toNat (allM n p)=matM n.places.toNat F) :
  Fn Tryz.prog 14 [.agg n.cells,.agg p.cells,.i base,.sl (S.map SpotT.row),.i mi] (.tup [.i (mostC n p F base S mi).1,.i (mostC n p F base S mi).2]):=by
 have h53:=z1377 n p [base] S hs (by simp) hl2
 have h68:=z1060 mi 0 2880
 rw [mostC]
 by_cases he:readyE n p [base] S=0
 ·obtain⟨hg,hp,hlen,hsp,_,hbase⟩:=z57 he
  have hb:=hbase base (by simp)
  have hpl:=hg.places
  have hl5:S.length≤5:=hl.resolve_right fun h=>h he
  obtain⟨b,rfl⟩:∃ b:Nat,base=b:=⟨base.toNat,by omega⟩
  have hbm:b<n.places.toNat:=by omega
  have hS:SpotsOk n.places.toNat S:=⟨hl5,fun s hs=>by have:=(hsp s hs).1;omega⟩
  rw [readyD,he,if_pos rfl,rescN,rescC,hF he] at h53
  rw [if_neg (fun h=>h he)]
  rw [Int.toNat_natCast]
  obtain⟨TD,hTD⟩:∃ TD,TD=timesD n p:=⟨_,rfl⟩
  rw [← hTD] at h53
  have h56:=z1375 (.i n.places) (.sl (n.paths.map Path.row)) TD n.places.toNat F S hl5
  have h71:=z1373 (.i n.places) (.sl (n.paths.map Path.row)) TD n.places.toNat F S hS
  have h72:=z1372 (.i n.places) (.sl (n.paths.map Path.row)) TD n.places.toNat F S
  simp only [rescC,uD] at h56 h71 h72
  cases hw:withinB mi 0 2880
  case false =>
   rw [hw] at h68
   rw [if_neg (by decide)]
   refine z10 94 Tryz.call14 Tryz.func14 rfl (by decide) fun J=>?_
   simp only [go_sem,St.start,Tryz.ntmps14,Tryz.results14,Net.cells,Party.cells]
   repeat (first|refine nx ?_|(refine z3 fun K hK=>?_;simp only [go_sem];(repeat (first|(refine⟨_,.lent (hf:=h53) (hd:=rfl) (hr:=rfl),?_⟩;simp only [go_sem])|(refine⟨_,.lent (hf:=h68) (hd:=rfl) (hr:=rfl),?_⟩;simp only [go_sem])|(refine⟨_,.given (hf:=h53) (hd:=rfl) (ha:=rfl),?_⟩;simp only [go_sem])|(refine⟨_,.given (hf:=h68) (hd:=rfl) (ha:=rfl),?_⟩;simp only [go_sem])));apply hK;clear hK K))
   refine z8 (by rfl) ?_
   repeat (first|refine nx ?_|(refine z3 fun K hK=>?_;simp only [go_sem];apply hK;clear hK K))
   refine z8 (by rfl) ?_
   repeat (first|refine nx ?_|(refine z3 fun K hK=>?_;simp only [go_sem];apply hK;clear hK K))
   simp only [go_sem]
  case true =>
   rw [hw] at h68
   rw [if_pos rfl]
   refine z10 94 Tryz.call14 Tryz.func14 rfl (by decide) fun J=>?_
   simp only [go_sem,St.start,Tryz.ntmps14,Tryz.results14,Net.cells,Party.cells]
   repeat (first|refine nx ?_|(refine z3 fun K hK=>?_;simp only [go_sem];(repeat (first|(refine⟨_,.lent (hf:=h53) (hd:=rfl) (hr:=rfl),?_⟩;simp only [go_sem])|(refine⟨_,.lent (hf:=h68) (hd:=rfl) (hr:=rfl),?_⟩;simp only [go_sem])|(refine⟨_,.given (hf:=h53) (hd:=rfl) (ha:=rfl),?_⟩;simp only [go_sem])|(refine⟨_,.given (hf:=h68) (hd:=rfl) (ha:=rfl),?_⟩;simp only [go_sem])));apply hK;clear hK K))
   refine z5 (by rfl) ?_
   repeat (first|refine nx ?_|(refine z3 fun K hK=>?_;simp only [go_sem];apply hK;clear hK K))
   refine z5 (by rfl) ?_
   repeat (first|refine nx ?_|(refine z3 fun K hK=>?_;simp only [go_sem];apply hK;clear hK K))
   have hf32:=z223 hl5
   obtain⟨v,hv⟩:∃ v:Nat × Nat→Int,v=fun q=>doneV F S b 5 q.2 q.1:=⟨_,rfl⟩
   obtain⟨mst,hmst⟩:∃ f:Int→Nat→Int,f=fun a s=>if byB F S b mi s then max a (weightW S s) else a:=⟨_,rfl⟩
   obtain⟨RES,hRES⟩:∃ R,R=mostV F S b mi:=⟨_,rfl⟩
   rw [← hRES]
   rw [mostV,← hmst] at hRES
   refine z12 (fun (_:Nat × Int)=>[(16,.box 16 0),(17,.undef),(18,.undef),(19,.undef),(20,.undef)]) (fun a=>[(16,some (.box [.d (.int .u64 (a.1:Int))])),(15,some (.box [.d (.i a.2)])),(40,some (.mp (some [.i64,.u64]) (entsP v (pairsD a.1) 0) (pairsD a.1).length))])
    (fun a=>(1≤a.1∧a.1≤fullN S + 1)∧a.2=(List.range a.1).foldl mst 0) (fun a=>fullN S + 1 - a.1) (1,0) ?_ ⟨⟨Nat.le_refl _,by omega⟩,by
     rw [hmst]
     simp [List.range_succ,byB,z30]⟩ ?_
   ·have hp1:pairsD 1=[]:=by simp [pairsD,List.range_succ,z30]
    simp only [go_sem,hp1,entsP,List.length_nil]
    refine weA ?_ ?_ <;> simp
   ·rintro⟨u,most⟩ ⟨⟨hu1,hu2⟩,hmo⟩
    dsimp only at hu1 hu2 hmo
    simp only [go_sem]
    repeat (first|refine nx ?_|(refine z3 fun K hK=>?_;simp only [go_sem];apply hK;clear hK K))
    refine z7 (by kernel_rfl) (by kernel_rfl) fun K hK=>?_
    simp only [go_sem]
    refine⟨_,.fn (hf:=h56) (hd:=rfl) (hr:=.inl rfl),?_⟩
    simp only [go_sem]
    refine⟨by kernel_rfl,hK _ ?_⟩
    clear hK K
    refine z4 rfl (fun hb=>?_) (fun hb=>?_)
    ·have hul:u≤fullN S:=by
      have:=of_decide_eq_true hb
      rw [fullN]
      omega
     have hu:u<32:=by omega
     have hwu:IntKind.u64.wrap ((u:Int) + 1)=((u + 1:Nat):Int):=by
      simp only [IntKind.wrap,IntKind.bits,IntKind.signed,Bool.false_and,Bool.false_eq_true,if_false]
      omega
     have huS:∀ i ∈ elems u,i<S.length:=z380 u hu S.length hl5 (by rw [fullN] at hul;have:=Nat.two_pow_pos S.length;omega)
     have h70:=z1315 u
     have hit:=z936 u hu
     have h72u:=h72 u hu huS
     obtain⟨N,hN⟩:∃ N,N=elems u:=⟨_,rfl⟩
     rw [elRows,← hN] at hit
     simp only [uD] at h70 hit
     repeat refine nx ?_
     refine z3 fun K hK=>?_
     simp only [go_sem]
     refine⟨_,.made (news:=[48]) (hf:=h70) (hd:=rfl) (hn:=by decide) (hl:=rfl) (hnew:=rfl) (hx:=rfl),?_⟩
     simp only [go_sem,List.map_cons,List.map_nil]
     apply hK
     clear hK K
     refine z38 ?_
     obtain⟨MS,hMS⟩:∃ f:List Nat→Int,f=fun l=>if l.any (fun i=>decide (doneV F S b 5 u i≤mi)) then max most (weightW S u) else most:=⟨_,rfl⟩
     refine z228 (fun _ h=>by cases h) [48] (m0:=[.box [.d (.int .u64 (u:Int))]]) rfl (by decide) rfl hit (by intro row hr;obtain⟨w,_,rfl⟩:=List.mem_map.1 hr;rfl) (fun _=>[])
      (fun (a:Nat × Int)=>[(15,some (.box [.d (.i a.2)])),(40,some (.mp (some [.i64,.u64]) (entsP v (pairsAt u a.1) 0) (pairsAt u a.1).length))])
      (fun j a=>a.1=j∧a.2=MS (N.take j)) (fun _ _=>False) (0,most) ?_ ⟨rfl,by rw [hMS];rfl⟩ ?_ ?_ (fun _ _ h=>h.elim)
     ·simp only [go_sem,z690]
      refine weA ?_ ?_ <;> simp
     ·rintro X0 W0 j ⟨j',mo⟩ row hj ⟨hj1,hmj⟩ l1 m1
      dsimp only at hj1 hmj
      subst hj1
      rw [List.getElem?_map,Option.map_eq_some_iff] at hj
      obtain⟨i,hi2,rfl⟩:=hj
      simp only [go_sem]
      repeat (first|refine nx ?_|(refine z3 fun K hK=>?_;simp only [go_sem];apply hK;clear hK K))
      intro J2 hJ2
      have him:i ∈ elems u:=by rw [← hN];exact List.mem_of_getElem? hi2
      have hiN:(elems u)[j']?=some i:=by rw [← hN];exact hi2
      have hiS:=huS i him
      have hi5:=z253 him
      obtain⟨u1,u2,u3⟩:=z25 hu him
      have hsh:=z576 u hu i hi5 him
      obtain⟨bf,hbf⟩:∃ bf,bf=u - 2 ^ i:=⟨_,rfl⟩
      have hleq:=z1218 F S b hu him
      have hbfu:bf<u:=by rw [hbf];have:=Nat.two_pow_pos i;omega
      rw [← hbf] at u1 u2 u3 hsh hleq
      have ni:¬ ((i:Int)<0):=by omega
      have h70b:=z1315 bf
      have hit2:=z936 bf u1
      obtain⟨B,hB⟩:∃ B,B=elems bf:=⟨_,rfl⟩
      rw [elRows,← hB] at hit2
      rw [← hB] at hleq
      simp only [uD] at h70b hit2
      obtain⟨ini,hini⟩:∃ ini:Int,ini=if bf=0 then minW F S b i else farW:=⟨_,rfl⟩
      rw [← hini] at hleq
      have h71b:=h71 b i hbm hiS
      refine z38 ?_
      repeat (first|refine z27 ?_|refine z47 ?_)
      refine z7 (by kernel_rfl) (by kernel_rfl) fun K hK=>?_
      simp only [go_sem,ni,hsh]
      refine⟨by kernel_rfl,hK _ ?_⟩
      clear hK K
      repeat (first|refine nx ?_|(refine z3 fun K hK=>?_;simp only [go_sem];apply hK;clear hK K))
      refine z23 [] [(19,some (.box [.d (.i ini)]))] ?_ ?_
      ·by_cases h0:bf=0
       ·have hz:((bf:Int) == 0)=true:=by simp [h0]
        rw [if_pos h0] at hini
        refine z4 (b:=true) (by rw [← hz];rfl) (fun _=>?_) (fun hc=>by cases hc)
        repeat (first|refine nx ?_|(refine z3 fun K hK=>?_;simp only [go_sem];(repeat (first|(refine⟨_,.lent (hf:=h71b) (hd:=rfl) (hr:=rfl),?_⟩;simp only [go_sem])|(refine⟨_,.given (hf:=h71b) (hd:=rfl) (ha:=rfl),?_⟩;simp only [go_sem])));apply hK;clear hK K))
        refine⟨rfl,?_⟩
        rw [hini]
        try simp only [go_sem]
        refine weA ?_ ?_ <;> simp
       ·have hz:((bf:Int) == 0)=false:=by simp [h0]
        rw [if_neg h0] at hini
        refine z4 (b:=false) (by rw [← hz];rfl) (fun hc=>by cases hc) (fun _=>?_)
        repeat (first|refine nx ?_|(refine z3 fun K hK=>?_;simp only [go_sem];apply hK;clear hK K))
        refine⟨rfl,?_⟩
        rw [hini]
        try simp only [go_sem,farW]
        refine weA ?_ ?_ <;> simp
      ·simp only [go_sem]
       repeat refine nx ?_
       refine z3 fun K hK=>?_
       simp only [go_sem]
       refine⟨_,.made (news:=[61]) (hf:=h70b) (hd:=rfl) (hn:=by decide) (hl:=rfl) (hnew:=rfl) (hx:=rfl),?_⟩
       simp only [go_sem,List.map_cons,List.map_nil]
       apply hK
       clear hK K
       repeat refine nx ?_
       refine z228 (fun _ h=>by cases h;exact hJ2) [61] (m0:=[.box [.d (.int .u64 (bf:Int))]]) rfl (by decide) rfl hit2 (by intro row hr;obtain⟨w,_,rfl⟩:=List.mem_map.1 hr;rfl) (fun _=>[])
        (fun (a:Int)=>[(19,some (.box [.d (.i a)]))]) (fun q a=>a=(B.take q).foldl (lstepV F S b bf i) ini) (fun _ _=>False) ini ?_ rfl ?_ ?_ (fun _ _ h=>h.elim)
       ·simp only [go_sem]
        refine weA ?_ ?_ <;> simp
       ·rintro X1 W1 q a row hq ha l2 m2
        rw [List.getElem?_map,Option.map_eq_some_iff] at hq
        obtain⟨k,hk,rfl⟩:=hq
        have hkm:k ∈ elems bf:=by rw [← hB];exact List.mem_of_getElem? hk
        have hkS:=huS k (u3 k hkm)
        have hkpl:=hS.pl (spotAt S k) (List.mem_of_getElem? (z65 hkS))
        have hkq:(spotAt S k).pl=(nextP S k:Int):=by rw [nextP];omega
        have g0:(S.map SpotT.row)[k]?=some [.i (nextP S k:Int),.i (spotAt S k).wt,.i (spotAt S k).se]:=by rw [← hkq,List.getElem?_map,z65 hkS];rfl
        have l0:k<(S.map SpotT.row).length:=by simpa using hkS
        have nk:¬ ((k:Int)<0):=by omega
        have h71k:=h71 (nextP S k) i (by omega) hiS
        obtain⟨jj,bb,hfind⟩:=z490 (v:=v) (q:=(k,bf)) (l:=pairsAt u j') (k:=0) (i:=0) (List.mem_append.2 (.inl (z1024 hbfu hkm)))
        dsimp only [keyB] at hfind
        have hvv:v (k,bf)=doneV F S b 5 bf k:=by rw [hv]
        rw [hvv] at hfind
        have hnx:(B.take (q + 1)).foldl (lstepV F S b bf i) ini=lstepV F S b bf i a k:=by rw [z28 _ _ _ _ _ hk,← ha]
        rw [lstepV,wr] at hnx
        simp only [go_sem]
        repeat (first|refine nx ?_|(refine z3 fun K hK=>?_;simp only [go_sem];apply hK;clear hK K))
        intro J3 hJ3
        refine z38 ?_
        repeat (first|refine z27 ?_|refine z47 ?_)
        refine z7 (by kernel_rfl) (by kernel_rfl) fun K hK=>?_
        simp only [go_sem,g0,l0,nk,hfind]
        refine⟨_,.fn (hf:=h71k) (hd:=rfl) (hr:=.inl rfl),?_⟩
        simp only [go_sem]
        refine⟨by kernel_rfl,hK _ ?_⟩
        clear hK K
        repeat (first|refine nx ?_|(refine z3 fun K hK=>?_;simp only [go_sem];apply hK;clear hK K))
        refine⟨rfl,_,?_,hnx.symm⟩
        simp only [go_sem]
        refine weA ?_ ?_ <;> simp
       ·intro a ha
        rw [List.length_map,List.take_length,hleq] at ha
        have hnone:=z489 (v:=v) (q:=(i,u)) (l:=pairsAt u j') (k:=0) (i:=0) (z883 hiN)
        dsimp only [keyB] at hnone
        have hpush:=z488 v (i,u) (pairsAt u j') 0
        rw [← z312 hiN] at hpush
        dsimp only [keyB] at hpush
        have hvv:v (i,u)=a:=by rw [hv,ha]
        rw [hvv,Nat.zero_add] at hpush
        have hplen:(pairsAt u (j' + 1)).length=(pairsAt u j').length + 1:=by rw [z312 hiN];simp
        have hms:MS (N.take (j' + 1))=if a≤mi then max mo (weightW S u) else mo:=by
         rw [hmj,hMS]
         dsimp only
         rw [z1155 _ hi2,← ha]
         by_cases h1:(N.take j').any (fun i=>decide (doneV F S b 5 u i≤mi))=true
         ·rw [h1,Bool.true_or,if_pos rfl]
          split <;> omega
         ·have h1:(N.take j').any (fun i=>decide (doneV F S b 5 u i≤mi))=false:=by simpa using h1
          rw [h1,Bool.false_or]
          by_cases h2:a≤mi
          ·simp [h2]
          ·simp [h2]
        simp only [go_sem]
        by_cases hle:a≤mi
        ·have hd:decide (a≤mi)=true:=decide_eq_true hle
         rw [if_pos hle] at hms
         repeat (first|refine nx ?_|(refine z3 fun K hK=>?_;simp only [go_sem,hnone,hd];apply hK;clear hK K))
         refine z8 (by rfl) ?_
         repeat (first|refine nx ?_|(refine z3 fun K hK=>?_;simp only [go_sem];apply hK;clear hK K))
         refine z7 (by kernel_rfl) (by kernel_rfl) fun K hK=>?_
         simp only [go_sem]
         refine⟨_,.fn (hf:=h72u) (hd:=rfl) (hr:=.inl rfl),?_⟩
         simp only [go_sem]
         refine⟨by kernel_rfl,hK _ ?_⟩
         clear hK K
         repeat (first|refine nx ?_|(refine z3 fun K hK=>?_;simp only [go_sem];apply hK;clear hK K))
         refine⟨rfl,(j' + 1,max mo (weightW S u)),?_,rfl,hms.symm⟩
         simp only [go_sem,← hpush,hplen]
         refine weA ?_ ?_ <;> simp
        ·have hd:decide (a≤mi)=false:=decide_eq_false hle
         rw [if_neg hle] at hms
         repeat (first|refine nx ?_|(refine z3 fun K hK=>?_;simp only [go_sem,hnone,hd];apply hK;clear hK K))
         refine z5 (by rfl) ?_
         repeat (first|refine nx ?_|(refine z3 fun K hK=>?_;simp only [go_sem];apply hK;clear hK K))
         refine⟨rfl,(j' + 1,mo),?_,rfl,hms.symm⟩
         simp only [go_sem,← hpush,hplen]
         refine weA ?_ ?_ <;> simp
     ·rintro⟨j',mo⟩ ⟨hj1,hmj⟩
      dsimp only at hj1 hmj
      rw [List.length_map] at hj1 hmj
      subst hj1
      rw [List.take_length] at hmj
      rw [hN,z884]
      have hnx:(List.range (u + 1)).foldl mst 0=mo:=by
       rw [z54,← hmo,hmj,hMS,hmst,hN]
       rfl
      simp only [go_sem]
      repeat refine nx ?_
      refine z3 fun K hK=>?_
      simp only [go_sem]
      apply hK
      clear hK K
      refine z961 [16] ?_ ?_
      ·simp only [go_sem]
       refine weA ?_ ?_ <;> simp
      simp only [go_sem]
      repeat (first|refine nx ?_|(refine z3 fun K hK=>?_;simp only [go_sem,hwu];apply hK;clear hK K))
      refine⟨rfl,(u + 1,mo),?_,⟨⟨by omega,by omega⟩,hnx.symm⟩,by dsimp only;omega⟩
      try simp only [go_sem]
      refine weA ?_ ?_ <;> simp
    ·have he:u=fullN S + 1:=by
      have:=of_decide_eq_false hb
      rw [fullN] at hu2 ⊢
      omega
     subst he
     rw [← hRES] at hmo
     rw [← hmo]
     repeat (first|refine nx ?_|(refine z3 fun K hK=>?_;simp only [go_sem];apply hK;clear hK K))
     simp only [go_sem]
 ·have hne:(readyE n p [base] S != 0)=true:=by simpa using he
  have hne2:(readyE n p [base] S == 0)=false:=by simpa using he
  rw [if_pos he]
  rw [readyD,if_neg he] at h53
  change Fn Tryz.prog 25 [_,_,.sl [[.i base]],_] _ at h53
  refine z10 94 Tryz.call14 Tryz.func14 rfl (by decide) fun J=>?_
  simp only [go_sem,St.start,Tryz.ntmps14,Tryz.results14,Net.cells,Party.cells]
  rw [Net.cells,Party.cells] at h53
  repeat (first|refine nx ?_|(refine z3 fun K hK=>?_;simp only [go_sem,hne,hne2];(repeat (first|(refine⟨_,.lent (hf:=h53) (hd:=rfl) (hr:=rfl),?_⟩;simp only [go_sem,hne,hne2])|(refine⟨_,.given (hf:=h53) (hd:=rfl) (ha:=rfl),?_⟩;simp only [go_sem,hne,hne2])));apply hK;clear hK K))
  refine z5 (by rfl) ?_
  repeat (first|refine nx ?_|(refine z3 fun K hK=>?_;simp only [go_sem,hne,hne2];apply hK;clear hK K))
  refine z8 (by rfl) ?_
  repeat (first|refine nx ?_|(refine z3 fun K hK=>?_;simp only [go_sem];apply hK;clear hK K))
  simp only [go_sem]
end Go.Ab
namespace Go.Ab
open Go.RowKit Go.Proofs
set_option maxHeartbeats 8000000
set_option maxRecDepth 20000
attribute [local irreducible] WalkL Walk
theorem z1164 {n:Net} {p:Party} (hn:n.Good) (hp:p.Good) (a b:Nat):(allM n p a b<farW∧allR n p a b=allM n p a b∧¬ allR n p a b ≥ neverW)∨(¬ allM n p a b<farW∧allR n p a b ≥ neverW):=by
 have hnw:neverW=1073741824:=rfl
 have hfw:farW=1099511627776:=rfl
 rcases z1090 hn hp a b with ⟨h1,h2,h3,h4⟩ | ⟨h1,h2⟩
 ·exact .inl ⟨h1,h4,by omega⟩
 ·exact .inr ⟨by omega,by omega⟩
theorem z1417 (n:Net) (p:Party) (a b:Int) (hs:n.Small):Fn Tryz.prog 10 [.agg n.cells,.agg p.cells,.i a,.i b] (.tup [.i (wayF n p a b).1,.i (wayF n p a b).2]):=by
 have h22:=z1378 n p hs
 by_cases hok:checkPartyF n p=0
 ·obtain⟨hg,hp⟩:=z141.1 hok
  have hpl:=hg.places
  have h23:=fun y=>z1316 n y (by omega)
  have h24:=(z1328 n p hg).deep
  rw [hok] at h22
  rw [Net.cells,Party.cells] at *
  refine z10 40 Tryz.call10 Tryz.func10 rfl (by decide) fun J=>?_
  simp only [go_sem,St.start,Tryz.ntmps10,Tryz.results10,Net.cells,Party.cells]
  repeat (first|refine nx ?_|(refine z3 fun K hK=>?_;simp only [go_sem];(repeat (first|(refine⟨_,.lent (hf:=h22) (hd:=rfl) (hr:=rfl),?_⟩;simp only [go_sem])|(refine⟨_,.given (hf:=h22) (hd:=rfl) (ha:=rfl),?_⟩;simp only [go_sem])));apply hK;clear hK K))
  refine z5 (by rfl) ?_
  repeat (first|refine z27 ?_|refine z47 ?_)
  refine z23 [(27,.d (.bool (badWay n a b)))] [] ?_ ?_
  ·refine z3 fun K hK=>?_
   simp only [go_sem]
   refine⟨_,.lent (hf:=h23 a) (hd:=rfl) (hr:=rfl),?_⟩
   simp only [go_sem]
   by_cases ho0:(!withinB a 0 (n.places - 1))=true
   ·simp only [go_sem,ho0]
    apply hK
    clear hK K
    refine z11 ?_
    refine z6 ?_
    refine⟨rfl,?_⟩
    rw [show (badWay n a b)=(true) from by simp [badWay,ho0]]
    simp only [go_sem]
    refine weA ?_ ?_ <;> simp
   ·simp only [go_sem,ho0]
    refine⟨_,.lent (hf:=h23 b) (hd:=rfl) (hr:=rfl),?_⟩
    simp only [go_sem,ho0]
    apply hK
    clear hK K
    refine z11 ?_
    refine z6 ?_
    refine⟨rfl,?_⟩
    rw [show (badWay n a b)=(!withinB b 0 (n.places - 1)) from by simp [badWay,ho0]]
    simp only [go_sem]
    refine weA ?_ ?_ <;> simp
  simp only [go_sem]
  by_cases hb:badWay n a b=true
  ·have e:wayF n p a b=(0,1):=by simp [wayF,hok,hb]
   rw [e]
   refine z4 (b:=true) (by rw [← hb];rfl) (fun _=>?_) (fun hc=>by cases hc)
   repeat (first|refine nx ?_|(refine z3 fun K hK=>?_;simp only [go_sem];apply hK;clear hK K))
   simp only [go_sem]
  ·have hb:badWay n a b=false:=by simpa using hb
   have hb2:=hb
   simp only [badWay,Bool.or_eq_false_iff,Bool.not_eq_false',z20] at hb2
   refine z4 (b:=false) (by rw [← hb];rfl) (fun hc=>by cases hc) (fun _=>?_)
   obtain⟨i,rfl⟩:∃ i:Nat,a=i:=⟨a.toNat,by omega⟩
   obtain⟨j,rfl⟩:∃ i:Nat,b=i:=⟨b.toNat,by omega⟩
   have hi:i<n.places.toNat:=by omega
   have hj:j<n.places.toNat:=by omega
   have g1:=z162 (z58 (F:=allR n p) hi)
   have g2:=z33 (z51 (F:=allR n p) (a:=i) hj)
   have l1:i<(slRows (matM n.places.toNat (allR n p))).length:=by simp [slRows,z26];omega
   have l2:j<(intRows (rowM n.places.toNat (allR n p) i)).length:=by rw [z14,z75];exact hj
   have n1:¬ ((i:Int)<0):=by omega
   have n2:¬ ((j:Int)<0):=by omega
   rcases z1164 hg hp i j with ⟨w1,w2,w3⟩ | ⟨w1,w2⟩
   ·have e:wayF n p i j=(allR n p i j,0):=by simp [wayF,hok,hb,w1,w2]
    have hd:decide (allR n p i j ≥ 1073741824)=false:=by simpa [neverW] using w3
    rw [e]
    repeat (first|refine nx ?_|(refine z3 fun K hK=>?_;simp only [go_sem,g1,g2,l1,l2,n1,n2,hd];(repeat (first|(refine⟨_,.lent (hf:=h24) (hd:=rfl) (hr:=rfl),?_⟩;simp only [go_sem,g1,g2,l1,l2,n1,n2,hd])|(refine⟨_,.given (hf:=h24) (hd:=rfl) (ha:=rfl),?_⟩;simp only [go_sem,g1,g2,l1,l2,n1,n2,hd])));apply hK;clear hK K))
    refine z5 (by rfl) ?_
    repeat (first|refine nx ?_|(refine z3 fun K hK=>?_;simp only [go_sem];apply hK;clear hK K))
    simp only [go_sem]
   ·have e:wayF n p i j=(0,3):=by simp [wayF,hok,hb,w1]
    have hd:decide (allR n p i j ≥ 1073741824)=true:=by simpa [neverW] using w2
    rw [e]
    repeat (first|refine nx ?_|(refine z3 fun K hK=>?_;simp only [go_sem,g1,g2,l1,l2,n1,n2,hd];(repeat (first|(refine⟨_,.lent (hf:=h24) (hd:=rfl) (hr:=rfl),?_⟩;simp only [go_sem,g1,g2,l1,l2,n1,n2,hd])|(refine⟨_,.given (hf:=h24) (hd:=rfl) (ha:=rfl),?_⟩;simp only [go_sem,g1,g2,l1,l2,n1,n2,hd])));apply hK;clear hK K))
    refine z8 (by rfl) ?_
    repeat (first|refine nx ?_|(refine z3 fun K hK=>?_;simp only [go_sem];apply hK;clear hK K))
    simp only [go_sem]
 ·have hne2:(checkPartyF n p != 0)=true:=by simpa using hok
  have hw:wayF n p a b=(0,checkPartyF n p):=by rw [wayF,if_pos hok]
  rw [hw]
  rw [Net.cells,Party.cells] at *
  refine z10 40 Tryz.call10 Tryz.func10 rfl (by decide) fun J=>?_
  simp only [go_sem,St.start,Tryz.ntmps10,Tryz.results10,Net.cells,Party.cells]
  repeat (first|refine nx ?_|(refine z3 fun K hK=>?_;simp only [go_sem,hne2];(repeat (first|(refine⟨_,.lent (hf:=h22) (hd:=rfl) (hr:=rfl),?_⟩;simp only [go_sem,hne2])|(refine⟨_,.given (hf:=h22) (hd:=rfl) (ha:=rfl),?_⟩;simp only [go_sem,hne2])));apply hK;clear hK K))
  refine z8 (by rfl) ?_
  repeat (first|refine nx ?_|(refine z3 fun K hK=>?_;simp only [go_sem];apply hK;clear hK K))
  simp only [go_sem]
theorem z1102 {n:Net} {p:Party} {b:Int} {S:List SpotT} (h:readyE n p [b] S=0) (hl:S.length≤5) (h5:n.places≤5) :
  planC n p (allM n p) b S=if (bestV (allM n p) S 5 b.toNat (fullN S)).1<farW then (natsI (orderV (allM n p) S 5 b.toNat (fullN S)),(bestV (allM n p) S 5 b.toNat (fullN S)).1,0) else ([],0,3):=by
 have hP:=z929 h hl h5
 obtain⟨hn,_,_,_,_,hb⟩:=z57 h
 have hb:=hb b (by simp)
 have hf:=z223 hl
 obtain⟨b1,b2⟩:=z156 (F:=allM n p) (S:=S) 5 b.toNat (fullN S) ([],0) hf (z19 _ hf) (Nat.le_refl _) (fun e he=>by simp at he)
 have e1:planC n p (allM n p) b S=if (bestP (allM n p) S b.toNat).1.1 ≥ farW then ([],0,3) else (orderP (allM n p) S b.toNat,(bestP (allM n p) S b.toNat).1.1,0):=by
  unfold planC
  exact if_neg (fun hh=>hh h)
 rw [e1,bestP,b1]
 by_cases hc:(bestV (allM n p) S 5 b.toNat (fullN S)).1<farW
 ·rw [if_neg (by omega),if_pos hc,orderP,bestP]
  have:=(z932 hP 5 b.toNat (fullN S) (bestM (allM n p) S 5 b.toNat (fullN S) ([],0)).2 (by omega) hf (z114 _ hl) (z19 _ hf) b2 hc).1
  rw [this]
  rfl
 ·rw [if_pos (by omega),if_neg hc]
theorem z730:∀ k:Nat,k≤5→IntKind.i64.wrap (bShl .i64 1 (k:Int) - 1)=((2 ^ k - 1:Nat):Int)∧IntKind.u64.wrap (k:Int)=(k:Int)∧bShl .i64 1 (k:Int)=((2 ^ k:Nat):Int):=by decide +kernel
theorem z1416 (n:Net) (p:Party) (base:Int) (S:List SpotT) (hs:n.Small) (hl:S.length≤5∨readyE n p [base] S≠0) (hl2:S.length<2 ^ 30) (h5:readyE n p [base] S=0→n.places≤5) :
  Fn Tryz.prog 12 [.agg n.cells,.agg p.cells,.i base,.sl (S.map SpotT.row)] (planD (planC n p (allM n p) base S)):=by
 have h30:=z1374 n p [base] S hs (by simp) hl2
 have hsl:(S.map SpotT.row).length=S.length:=by simp
 rw [planD]
 by_cases he:readyE n p [base] S=0
 ·obtain⟨hg,hp,hlen,hsp,_,hbase⟩:=z57 he
  have hb:=hbase base (by simp)
  have hpl:=hg.places
  have hl5:S.length≤5:=hl.resolve_right fun h=>h he
  have hP:=z929 he hl5 (h5 he)
  have hf:=z223 hl5
  have hS:SpotsOk n.places.toNat S:=⟨hl5,fun s hs=>by have:=(hsp s hs).1;omega⟩
  have h24:=(z1328 n p hg).deep
  have hbs:=z1153 hP (p:=base.toNat) (s:=fullN S) (by omega) hf (z114 _ hl5)
  have hrg:=z133 hP.nice 5 base.toNat (fullN S) (by omega) hf (z114 _ hl5)
  obtain⟨b,rfl⟩:∃ b:Nat,base=b:=⟨base.toNat,by omega⟩
  have h31:=z1409 n.places.toNat (allR n p) S hS b (by omega) (fullN S) hf (z114 _ hl5)
  rw [z1102 he hl5 (h5 he)]
  rw [Int.toNat_natCast] at hbs hrg ⊢
  rw [hbs] at h31
  have hfw:farW=1099511627776:=rfl
  have hnw:neverW=1073741824:=rfl
  obtain⟨e1,e2,_⟩:=z730 S.length hl5
  have n1:¬ ((S.length:Int)<0):=by omega
  rw [fullN] at h31
  rw [he] at h30
  change Fn Tryz.prog 30 [_,_,.sl [[.i _]],_] _ at h30
  by_cases hc:(bestV (allM n p) S 5 b (fullN S)).1<farW
  ·have hlt:(bestV (allM n p) S 5 b (fullN S)).1<neverW:=by
    have hlf:=z19 (fullN S) hf
    obtain⟨o1,o2,o3,_⟩:=z150 hP 5 b (fullN S) (by omega) hf (z114 _ hl5) hlf hc
    have:=z290 hP _ b (by rw [o1.length_eq];exact hlf) (fun i hi=>z114 _ hl5 i (o1.mem_iff.1 hi)) o2
    rw [o1.length_eq] at this
    omega
   have hc2:(bestV (allM n p) S 5 b (2 ^ S.length - 1)).1<farW:=hc
   rw [if_pos hc2] at h31
   rw [if_pos hc]
   obtain⟨V,hV⟩:∃ V,V=(bestV (allM n p) S 5 b (fullN S)).1:=⟨_,rfl⟩
   have hV2:(bestV (allM n p) S 5 b (2 ^ S.length - 1)).1=V:=hV.symm
   rw [hV2] at h31
   rw [← hV] at hlt ⊢
   obtain⟨O,hO⟩:∃ O,O=orderV (allM n p) S 5 b (fullN S):=⟨_,rfl⟩
   have hO2:orderV (allM n p) S 5 b (2 ^ S.length - 1)=O:=hO.symm
   rw [hO2] at h31
   rw [← hO]
   dsimp only at h31 ⊢
   have hd:decide (V ≥ 1073741824)=false:=decide_eq_false (by omega)
   rw [Net.cells,Party.cells] at *
   refine z10 39 Tryz.call12 Tryz.func12 rfl (by decide) fun J=>?_
   simp only [go_sem,St.start,Tryz.ntmps12,Tryz.results12,Net.cells,Party.cells]
   repeat (first|refine nx ?_|(refine z3 fun K hK=>?_;simp only [go_sem];(repeat (first|(refine⟨_,.lent (hf:=h30) (hd:=rfl) (hr:=rfl),?_⟩;simp only [go_sem])|(refine⟨_,.given (hf:=h30) (hd:=rfl) (ha:=rfl),?_⟩;simp only [go_sem])));apply hK;clear hK K))
   refine z5 (by rfl) ?_
   repeat (first|refine nx ?_|(refine z3 fun K hK=>?_;simp only [go_sem,hsl,List.length_map,e1,e2,n1,hd];(repeat (first|(refine⟨_,.lent (hf:=h24) (hd:=rfl) (hr:=rfl),?_⟩;simp only [go_sem,hsl,List.length_map,e1,e2,n1,hd])|(refine⟨_,.lent (hf:=h31) (hd:=rfl) (hr:=rfl),?_⟩;simp only [go_sem,hsl,List.length_map,e1,e2,n1,hd])|(refine⟨_,.given (hf:=h24) (hd:=rfl) (ha:=rfl),?_⟩;simp only [go_sem,hsl,List.length_map,e1,e2,n1,hd])|(refine⟨_,.given (hf:=h31) (hd:=rfl) (ha:=rfl),?_⟩;simp only [go_sem,hsl,List.length_map,e1,e2,n1,hd])));apply hK;clear hK K))
   refine z5 (by rfl) ?_
   repeat (first|refine nx ?_|(refine z3 fun K hK=>?_;simp only [go_sem];apply hK;clear hK K))
   simp only [go_sem]
  ·have hc2:¬ (bestV (allM n p) S 5 b (2 ^ S.length - 1)).1<farW:=hc
   rw [if_neg hc2] at h31
   rw [if_neg hc]
   dsimp only at h31 ⊢
   rw [neverW] at h31
   rw [Net.cells,Party.cells] at *
   refine z10 39 Tryz.call12 Tryz.func12 rfl (by decide) fun J=>?_
   simp only [go_sem,St.start,Tryz.ntmps12,Tryz.results12,Net.cells,Party.cells]
   repeat (first|refine nx ?_|(refine z3 fun K hK=>?_;simp only [go_sem];(repeat (first|(refine⟨_,.lent (hf:=h30) (hd:=rfl) (hr:=rfl),?_⟩;simp only [go_sem])|(refine⟨_,.given (hf:=h30) (hd:=rfl) (ha:=rfl),?_⟩;simp only [go_sem])));apply hK;clear hK K))
   refine z5 (by rfl) ?_
   repeat (first|refine nx ?_|(refine z3 fun K hK=>?_;simp only [go_sem,hsl,List.length_map,e1,e2,n1];(repeat (first|(refine⟨_,.lent (hf:=h24) (hd:=rfl) (hr:=rfl),?_⟩;simp only [go_sem,hsl,List.length_map,e1,e2,n1])|(refine⟨_,.lent (hf:=h31) (hd:=rfl) (hr:=rfl),?_⟩;simp only [go_sem,hsl,List.length_map,e1,e2,n1])|(refine⟨_,.given (hf:=h24) (hd:=rfl) (ha:=rfl),?_⟩;simp only [go_sem,hsl,List.length_map,e1,e2,n1])|(refine⟨_,.given (hf:=h31) (hd:=rfl) (ha:=rfl),?_⟩;simp only [go_sem,hsl,List.length_map,e1,e2,n1])));apply hK;clear hK K))
   refine z8 (by rfl) ?_
   repeat (first|refine nx ?_|(refine z3 fun K hK=>?_;simp only [go_sem];apply hK;clear hK K))
   simp only [go_sem,intRows,List.map_nil]
 ·have hne:(readyE n p [base] S != 0)=true:=by simpa using he
  have hw:planC n p (allM n p) base S=([],0,readyE n p [base] S):=by
   unfold planC
   exact if_pos he
  rw [hw]
  change Fn Tryz.prog 30 [_,_,.sl [[.i _]],_] _ at h30
  rw [Net.cells,Party.cells] at *
  refine z10 39 Tryz.call12 Tryz.func12 rfl (by decide) fun J=>?_
  simp only [go_sem,St.start,Tryz.ntmps12,Tryz.results12,Net.cells,Party.cells]
  repeat (first|refine nx ?_|(refine z3 fun K hK=>?_;simp only [go_sem,hne];(repeat (first|(refine⟨_,.lent (hf:=h30) (hd:=rfl) (hr:=rfl),?_⟩;simp only [go_sem,hne])|(refine⟨_,.given (hf:=h30) (hd:=rfl) (ha:=rfl),?_⟩;simp only [go_sem,hne])));apply hK;clear hK K))
  refine z8 (by rfl) ?_
  repeat (first|refine nx ?_|(refine z3 fun K hK=>?_;simp only [go_sem];apply hK;clear hK K))
  simp only [go_sem,intRows,List.map_nil]
end Go.Ab
namespace Go.Ab
open Go.RowKit Go.Proofs
set_option maxHeartbeats 16000000
set_option maxRecDepth 20000
attribute [local irreducible] WalkL Walk
def wstepF (S:List SpotT) (a:Int) (i:Nat):Int:=wr (a + (spotAt S i).wt)
theorem z761 (S:List SpotT) (s:Nat):weightW S s=(elems s).foldl (wstepF S) 0:=rfl
theorem z1277:((List.range 6).all fun k=>(List.range 32).all fun s=>decide (2 ^ k≤s) || (eleTo s k == elems s))=true:=by decide +kernel
theorem z1309 {k s:Nat} (hk:k≤5) (hs:s<2 ^ k) (h32:s<32):eleTo s k=elems s:=by
 have:=List.all_eq_true.1 (List.all_eq_true.1 z1277 k (List.mem_range.2 (by omega))) s (List.mem_range.2 h32)
 rw [Bool.or_eq_true,decide_eq_true_eq,beq_iff_eq] at this
 exact this.resolve_left (by omega)
def anyD (G:Mat) (S:List SpotT) (b:Nat) (mi:Int) (L:List (List Nat)):Bool:=L.any fun l=>decide ((costF G S b 0 0 l).2≤mi)
theorem z1312 {m:Nat} {F G:Mat} {S:List SpotT} (h:PlanB m F G S) {b s:Nat} {mi:Int} (hm:mi<1073741824) (hs:s<32) (hS:∀ j ∈ elems s,j<S.length) (h0:s≠0):anyD G S b mi (ordersL 5 s)=byB F S b mi s:=by
 have hnw:neverW=1073741824:=rfl
 have hlen:=z19 s hs
 rw [Bool.eq_iff_iff,z1310 h hm hs hS h0,anyD,List.any_eq_true]
 constructor
 ·rintro⟨l,h1,h2⟩
  have hp:=(z95 5 s hs hlen l).1 h1
  have h2:=of_decide_eq_true h2
  rcases z908 h (l:=l) (fun i hi=>hS i (hp.mem_iff.1 hi)) (by rw [hp.length_eq];exact hlen) b with ⟨c1,c2,_,_⟩ | ⟨_,c2⟩
  ·rw [c2] at h2;exact⟨l,hp,c1,h2⟩
  ·rw [c2] at h2;dsimp only at h2;omega
 ·rintro⟨l,hp,c1,h2⟩
  refine⟨l,(z95 5 s hs hlen l).2 hp,decide_eq_true ?_⟩
  rcases z908 h (l:=l) (fun i hi=>hS i (hp.mem_iff.1 hi)) (by rw [hp.length_eq];exact hlen) b with ⟨_,c2,_,_⟩ | ⟨c1',_⟩
  ·rw [c2];exact h2
  ·exact absurd c1 c1'
theorem z1414 (n:Net) (p:Party) (base:Int) (S:List SpotT) (mi:Int) (hs:n.Small) (hl:S.length≤5∨readyE n p [base] S≠0) (hl2:S.length<2 ^ 30) (h5:readyE n p [base] S=0→n.places≤5) :
  Fn Tryz.prog 15 [.agg n.cells,.agg p.cells,.i base,.sl (S.map SpotT.row),.i mi] (.tup [.i (mostC n p (allM n p) base S mi).1,.i (mostC n p (allM n p) base S mi).2]):=by
 have h30:=z1374 n p [base] S hs (by simp) hl2
 have h36:=z1408 mi
 have hsl:(S.map SpotT.row).length=S.length:=by simp
 rw [mostC]
 by_cases he:readyE n p [base] S=0
 ·obtain⟨hg,hp,hlen,hsp,_,hbase⟩:=z57 he
  have hb:=hbase base (by simp)
  have hpl:=hg.places
  have hl5:S.length≤5:=hl.resolve_right fun h=>h he
  have hP:=z929 he hl5 (h5 he)
  have hf:=z223 hl5
  have hS:SpotsOk n.places.toNat S:=⟨hl5,fun s hs=>by have:=(hsp s hs).1;omega⟩
  have h24:=(z1328 n p hg).deep
  obtain⟨b,rfl⟩:∃ b:Nat,base=b:=⟨base.toNat,by omega⟩
  have hbm:b<n.places.toNat:=by omega
  obtain⟨e1,e2,e3⟩:=z730 S.length hl5
  have n1:¬ ((S.length:Int)<0):=by omega
  have h39:=fun l h1 h2=>z1370 n.places.toNat (allR n p) S hS b hbm l h1 h2
  have h38:=fun s (h:s<32)=>z1371 5 s h (z19 s h)
  rw [if_neg (fun h=>h he),Int.toNat_natCast]
  rw [he] at h30
  change Fn Tryz.prog 30 [_,_,.sl [[.i _]],_] _ at h30
  rw [Net.cells,Party.cells] at *
  cases hw:withinB mi 0 2880
  case false =>
   rw [hw] at h36
   rw [if_neg (by decide)]
   refine z10 90 Tryz.call15 Tryz.func15 rfl (by decide) fun J=>?_
   simp only [go_sem,St.start,Tryz.ntmps15,Tryz.results15,]
   repeat (first|refine nx ?_|(refine z3 fun K hK=>?_;simp only [go_sem];(repeat (first|(refine⟨_,.lent (hf:=h30) (hd:=rfl) (hr:=rfl),?_⟩;simp only [go_sem])|(refine⟨_,.lent (hf:=h36) (hd:=rfl) (hr:=rfl),?_⟩;simp only [go_sem])|(refine⟨_,.given (hf:=h30) (hd:=rfl) (ha:=rfl),?_⟩;simp only [go_sem])|(refine⟨_,.given (hf:=h36) (hd:=rfl) (ha:=rfl),?_⟩;simp only [go_sem])));apply hK;clear hK K))
   refine z5 (by rfl) ?_
   repeat (first|refine nx ?_|(refine z3 fun K hK=>?_;simp only [go_sem];(repeat (first|(refine⟨_,.lent (hf:=h36) (hd:=rfl) (hr:=rfl),?_⟩;simp only [go_sem])|(refine⟨_,.given (hf:=h36) (hd:=rfl) (ha:=rfl),?_⟩;simp only [go_sem])));apply hK;clear hK K))
   refine z8 (by rfl) ?_
   repeat (first|refine nx ?_|(refine z3 fun K hK=>?_;simp only [go_sem];apply hK;clear hK K))
   simp only [go_sem]
  case true =>
   have hmi:=z20.1 hw
   rw [hw] at h36
   rw [if_pos rfl]
   obtain⟨mst,hmst⟩:∃ f:Int→Nat→Int,f=fun a s=>if byB (allM n p) S b mi s then max a (weightW S s) else a:=⟨_,rfl⟩
   obtain⟨RES,hRES⟩:∃ R,R=mostV (allM n p) S b mi:=⟨_,rfl⟩
   rw [← hRES]
   rw [mostV,← hmst] at hRES
   have hp2:fullN S + 1=2 ^ S.length:=by rw [fullN];have:=Nat.two_pow_pos S.length;omega
   rw [hp2] at hRES
   have hp32:2 ^ S.length≤32:=by rw [fullN] at hf;omega
   obtain⟨Q,hQ⟩:∃ Q,Q=2 ^ S.length:=⟨_,rfl⟩
   rw [← hQ] at hRES hp32 e3
   refine z10 90 Tryz.call15 Tryz.func15 rfl (by decide) fun J=>?_
   simp only [go_sem,St.start,Tryz.ntmps15,Tryz.results15,]
   repeat (first|refine nx ?_|(refine z3 fun K hK=>?_;simp only [go_sem];(repeat (first|(refine⟨_,.lent (hf:=h30) (hd:=rfl) (hr:=rfl),?_⟩;simp only [go_sem])|(refine⟨_,.given (hf:=h30) (hd:=rfl) (ha:=rfl),?_⟩;simp only [go_sem])));apply hK;clear hK K))
   refine z5 (by rfl) ?_
   repeat (first|refine nx ?_|(refine z3 fun K hK=>?_;simp only [go_sem];(repeat (first|(refine⟨_,.lent (hf:=h36) (hd:=rfl) (hr:=rfl),?_⟩;simp only [go_sem])|(refine⟨_,.given (hf:=h36) (hd:=rfl) (ha:=rfl),?_⟩;simp only [go_sem])));apply hK;clear hK K))
   refine z5 (by rfl) ?_
   repeat (first|refine nx ?_|(refine z3 fun K hK=>?_;simp only [go_sem];(repeat (first|(refine⟨_,.lent (hf:=h24) (hd:=rfl) (hr:=rfl),?_⟩;simp only [go_sem])|(refine⟨_,.given (hf:=h24) (hd:=rfl) (ha:=rfl),?_⟩;simp only [go_sem])));apply hK;clear hK K))
   refine z12 (fun (a:Nat × Int)=>[(15,.d (.i (a.1:Int))),(14,.d (.i a.2)),(16,.undef),(17,.undef),(18,.undef),(19,.undef),(20,.undef),(21,.undef)]) (fun _=>[])
    (fun a=>a.1≤Q∧0≤a.2∧a.2=(List.range a.1).foldl mst 0) (fun a=>Q - a.1) (0,0) ?_ ⟨Nat.zero_le _,Int.le_refl _,rfl⟩ ?_
   ·simp only [go_sem]
    refine weA ?_ ?_ <;> simp
   ·rintro⟨s,most⟩ ⟨hsq,hm0,hmo⟩
    dsimp only at hsq hm0 hmo
    simp only [go_sem]
    repeat (first|refine nx ?_|(refine z3 fun K hK=>?_;simp only [go_sem,hsl,List.length_map,e2,e3,n1];apply hK;clear hK K))
    refine z4 rfl (fun hb=>?_) (fun hb=>?_)
    ·have hslt:s<Q:=by simpa using hb
     have hs32:s<32:=by omega
     have hws:IntKind.i64.wrap ((s:Int) + 1)=((s + 1:Nat):Int):=by rw [z9 (by omega)];simp
     have hel:eleTo s S.length=elems s:=z1309 hl5 (by rw [← hQ];exact hslt) hs32
     have hsS:∀ i ∈ elems s,i<S.length:=z380 s hs32 S.length hl5 (by rw [← hQ];exact hslt)
     have h37:=fun (i:Nat) (hi:i<8)=>z1285 (s:Int) (i:Int) ⟨by omega,by omega⟩
     have h38s:=h38 s hs32
     have hbig:=(z135 s hs32).1
     have h39s:∀ l ∈ ordersL 5 s,Fn Tryz.prog 39 [.sl (slRows (matM n.places.toNat (allR n p))),.i (b:Int),.sl (S.map SpotT.row),.sl (intRows (natsI l))] (.tup [.i (costF (allR n p) S b 0 0 l).1,.i (costF (allR n p) S b 0 0 l).2]):=fun l hl=>by
      have hp2:=(z95 5 s hs32 (z19 s hs32) l).1 hl
      exact h39 l (fun i h=>hsS i (hp2.mem_iff.1 h)) (by rw [hp2.length_eq];have:=z19 s hs32;omega)
     have hnx:(List.range (s + 1)).foldl mst 0=mst most s:=by rw [z54,← hmo]
     have hwr:=z294 (fun t ht=>(hsp t ht).2.1) hs32 hsS
     have hval:mst most s=if weightW S s > most∧anyD (allR n p) S b mi (ordersL 5 s)=true then weightW S s else most:=by
      rw [hmst]
      dsimp only
      by_cases h0:s=0
      ·subst h0
       have hw0:weightW S 0=0:=rfl
       rw [hw0,if_neg (by simp [byB,z30]),if_neg (by omega)]
      ·rw [z1312 hP (by omega) hs32 hsS h0]
       by_cases h1:byB (allM n p) S b mi s=true
       ·rw [if_pos h1]
        by_cases h2:weightW S s > most
        ·rw [if_pos ⟨h2,h1⟩];omega
        ·rw [if_neg (fun h=>h2 h.1)];omega
       ·rw [if_neg h1,if_neg (fun h=>h1 h.2)]
     rw [hval] at hnx
     obtain⟨L,hL⟩:∃ L,L=ordersL 5 s:=⟨_,rfl⟩
     rw [← hL] at h38s h39s hnx hbig
     obtain⟨W,hW⟩:∃ W,W=weightW S s:=⟨_,rfl⟩
     rw [← hW] at hnx hwr
     have hLl:=z165 L
     repeat (first|refine nx ?_|(refine z3 fun K hK=>?_;simp only [go_sem];apply hK;clear hK K))
     refine z12 (fun (i:Nat)=>[(17,.d (.i (i:Int))),(16,.d (.i ((eleTo s i).foldl (wstepF S) 0)))]) (fun _=>[]) (fun i=>i≤S.length) (fun i=>S.length - i) 0 ?_ (Nat.zero_le _) ?_
     ·simp only [go_sem,eleTo,List.range_zero,List.filter_nil,List.foldl_nil]
      refine weA ?_ ?_ <;> simp
     ·intro i hi
      simp only [go_sem]
      repeat (first|refine nx ?_|(refine z3 fun K hK=>?_;simp only [go_sem,hsl,List.length_map];apply hK;clear hK K))
      refine z4 rfl (fun hb2=>?_) (fun hb2=>?_)
      ·have hil:i<S.length:=by simpa using hb2
       have hwi:IntKind.i64.wrap ((i:Int) + 1)=((i + 1:Nat):Int):=by rw [z9 (by omega)];simp
       have h37i:=h37 i (by omega)
       rw [z1135 s hs32 i (by omega)] at h37i
       have ni:¬ ((i:Int)<0):=by omega
       cases hbit:s.testBit i
       ·have e:eleTo s (i + 1)=eleTo s i:=by rw [z330,hbit];simp
        rw [hbit] at h37i
        repeat (first|refine nx ?_|(refine z3 fun K hK=>?_;simp only [go_sem];(repeat (first|(refine⟨_,.lent (hf:=h37i) (hd:=rfl) (hr:=rfl),?_⟩;simp only [go_sem])|(refine⟨_,.given (hf:=h37i) (hd:=rfl) (ha:=rfl),?_⟩;simp only [go_sem])));apply hK;clear hK K))
        refine z5 (by rfl) ?_
        repeat (first|refine nx ?_|(refine z3 fun K hK=>?_;simp only [go_sem,hwi];apply hK;clear hK K))
        refine⟨rfl,i + 1,?_,hil,by omega⟩
        rw [e]
        try simp only [go_sem]
        refine weA ?_ ?_ <;> simp
       ·have e:(eleTo s (i + 1)).foldl (wstepF S) 0=wr ((eleTo s i).foldl (wstepF S) 0 + (spotAt S i).wt):=by rw [z330,hbit,List.foldl_append];rfl
        have g1:(S.map SpotT.row)[i]?=some [.i (spotAt S i).pl,.i (spotAt S i).wt,.i (spotAt S i).se]:=by rw [List.getElem?_map,z65 hil];rfl
        rw [hbit] at h37i
        rw [wr] at e
        repeat (first|refine nx ?_|(refine z3 fun K hK=>?_;simp only [go_sem];(repeat (first|(refine⟨_,.lent (hf:=h37i) (hd:=rfl) (hr:=rfl),?_⟩;simp only [go_sem])|(refine⟨_,.given (hf:=h37i) (hd:=rfl) (ha:=rfl),?_⟩;simp only [go_sem])));apply hK;clear hK K))
        refine z8 (by rfl) ?_
        repeat (first|refine nx ?_|(refine z3 fun K hK=>?_;simp only [go_sem,g1,ni,hil,hsl,List.length_map,hwi];apply hK;clear hK K))
        refine⟨rfl,i + 1,?_,hil,by omega⟩
        rw [e]
        try simp only [go_sem]
        refine weA ?_ ?_ <;> simp
      ·have hie:i=S.length:=by (have:¬ i<S.length:=by simpa using hb2);omega
       subst hie
       rw [hel,← z761,← hW]
       repeat (first|refine nx ?_|(refine z3 fun K hK=>?_;simp only [go_sem];(repeat (first|(refine⟨_,.lent (hf:=h38s) (hd:=rfl) (hr:=rfl),?_⟩;simp only [go_sem])|(refine⟨_,.given (hf:=h38s) (hd:=rfl) (ha:=rfl),?_⟩;simp only [go_sem])));apply hK;clear hK K))
       refine z12 (fun (k:Nat)=>[(19,.d (.i (k:Int))),(14,.d (.i (if W > most∧anyD (allR n p) S b mi (L.take k)=true then W else most))),(20,.undef),(21,.undef)]) (fun _=>[]) (fun k=>k≤L.length) (fun k=>L.length - k) 0 ?_ (Nat.zero_le _) ?_
       ·simp only [go_sem,List.take_zero,anyD,List.any_nil,Bool.false_eq_true,and_false,if_false]
        refine weA ?_ ?_ <;> simp
       ·intro k hk
        obtain⟨cur,hcur⟩:∃ c,c=if W > most∧anyD (allR n p) S b mi (L.take k)=true then W else most:=⟨_,rfl⟩
        rw [← hcur]
        simp only [go_sem]
        by_cases hkl:k<L.length
        ·have d1:decide ((k:Int)<(L.length:Int))=true:=decide_eq_true (by omega)
         by_cases hgt:W > cur
         ·have d2:decide (W > cur)=true:=decide_eq_true hgt
          have hwk:IntKind.i64.wrap ((k:Int) + 1)=((k + 1:Nat):Int):=by rw [z9 (by omega)];simp
          obtain⟨l,hl⟩:∃ l,L[k]?=some l:=⟨_,List.getElem?_eq_getElem hkl⟩
          have h39l:=h39s l (List.mem_of_getElem? hl)
          have g1:=z271 hl
          have nk:¬ ((k:Int)<0):=by omega
          have hcm:cur=most:=by
           rw [hcur]
           split
           ·rename_i hc
            rw [if_pos hc] at hcur
            omega
           ·rfl
          have hfalse:anyD (allR n p) S b mi (L.take k)=false:=by
           by_cases hc:anyD (allR n p) S b mi (L.take k)=true
           ·rw [if_pos ⟨by omega,hc⟩] at hcur
            omega
           ·simpa using hc
          have hsucc:anyD (allR n p) S b mi (L.take (k + 1))=decide ((costF (allR n p) S b 0 0 l).2≤mi):=by
           rw [anyD,z1155 _ hl,← anyD,hfalse,Bool.false_or]
          by_cases hle:(costF (allR n p) S b 0 0 l).2≤mi
          ·have d3:decide ((costF (allR n p) S b 0 0 l).2≤mi)=true:=decide_eq_true hle
           have hnew:(if W > most∧anyD (allR n p) S b mi (L.take (k + 1))=true then W else most)=W:=if_pos ⟨by omega,by rw [hsucc,d3]⟩
           repeat (first|refine nx ?_|(refine z3 fun K hK=>?_;simp only [go_sem,hLl,d1,d2];apply hK;clear hK K))
           refine z8 (by rfl) ?_
           repeat (first|refine nx ?_|(refine z3 fun K hK=>?_;simp only [go_sem,g1,nk,hkl,hLl,d3];(repeat (first|(refine⟨_,.lent (hf:=h39l) (hd:=rfl) (hr:=rfl),?_⟩;simp only [go_sem,g1,nk,hkl,hLl,d3])|(refine⟨_,.given (hf:=h39l) (hd:=rfl) (ha:=rfl),?_⟩;simp only [go_sem,g1,nk,hkl,hLl,d3])));apply hK;clear hK K))
           refine z8 (by rfl) ?_
           repeat (first|refine nx ?_|(refine z3 fun K hK=>?_;simp only [go_sem,hwk];apply hK;clear hK K))
           refine⟨rfl,k + 1,?_,hkl,by omega⟩
           rw [hnew]
           try simp only [go_sem]
           refine weA ?_ ?_ <;> simp
          ·have d3:decide ((costF (allR n p) S b 0 0 l).2≤mi)=false:=decide_eq_false hle
           have hnew:(if W > most∧anyD (allR n p) S b mi (L.take (k + 1))=true then W else most)=cur:=by
            rw [hsucc,d3,if_neg (fun h=>by cases h.2),hcm]
           repeat (first|refine nx ?_|(refine z3 fun K hK=>?_;simp only [go_sem,hLl,d1,d2];apply hK;clear hK K))
           refine z8 (by rfl) ?_
           repeat (first|refine nx ?_|(refine z3 fun K hK=>?_;simp only [go_sem,g1,nk,hkl,hLl,d3];(repeat (first|(refine⟨_,.lent (hf:=h39l) (hd:=rfl) (hr:=rfl),?_⟩;simp only [go_sem,g1,nk,hkl,hLl,d3])|(refine⟨_,.given (hf:=h39l) (hd:=rfl) (ha:=rfl),?_⟩;simp only [go_sem,g1,nk,hkl,hLl,d3])));apply hK;clear hK K))
           refine z5 (by rfl) ?_
           repeat (first|refine nx ?_|(refine z3 fun K hK=>?_;simp only [go_sem,hwk];apply hK;clear hK K))
           refine⟨rfl,k + 1,?_,hkl,by omega⟩
           rw [hnew]
           try simp only [go_sem]
           refine weA ?_ ?_ <;> simp
         ·have d2:decide (W > cur)=false:=decide_eq_false hgt
          have hfin:(List.range (s + 1)).foldl mst 0=cur:=by
           rw [hnx,hcur]
           by_cases h1:W > most
           ·have hk2:anyD (allR n p) S b mi (L.take k)=true:=by
             by_cases hc:anyD (allR n p) S b mi (L.take k)=true
             ·exact hc
             ·rw [if_neg (fun h=>hc h.2)] at hcur
              omega
            have hall:anyD (allR n p) S b mi L=true:=by
             rw [anyD,List.any_eq_true] at hk2 ⊢
             obtain⟨x,hx,hx2⟩:=hk2
             exact⟨x,List.mem_of_mem_take hx,hx2⟩
            rw [if_pos ⟨h1,hall⟩,if_pos ⟨h1,hk2⟩]
           ·rw [if_neg (fun h=>h1 h.1),if_neg (fun h=>h1 h.1)]
          have hc0:0≤cur:=by rw [hcur];split <;> omega
          repeat (first|refine nx ?_|(refine z3 fun K hK=>?_;simp only [go_sem,hLl,d1,d2];apply hK;clear hK K))
          refine z5 (by rfl) ?_
          repeat (first|refine nx ?_|(refine z3 fun K hK=>?_;simp only [go_sem,hws];apply hK;clear hK K))
          refine⟨rfl,(s + 1,cur),?_,⟨hslt,hc0,hfin.symm⟩,by dsimp only;omega⟩
          try simp only [go_sem]
          refine weA ?_ ?_ <;> simp
        ·have d1:decide ((k:Int)<(L.length:Int))=false:=decide_eq_false (by omega)
         have hke:k=L.length:=by omega
         subst hke
         rw [List.take_length,← hnx] at hcur
         have hc0:0≤cur:=by
          rw [hcur,hnx]
          split <;> omega
         repeat (first|refine nx ?_|(refine z3 fun K hK=>?_;simp only [go_sem,hLl,d1];apply hK;clear hK K))
         refine z5 (by rfl) ?_
         repeat (first|refine nx ?_|(refine z3 fun K hK=>?_;simp only [go_sem,hws];apply hK;clear hK K))
         refine⟨rfl,(s + 1,cur),?_,⟨hslt,hc0,hcur⟩,by dsimp only;omega⟩
         try simp only [go_sem]
         refine weA ?_ ?_ <;> simp
    ·have hse:s=Q:=by (have:¬ s<Q:=by simpa using hb);omega
     subst hse
     rw [← hRES] at hmo
     rw [← hmo]
     repeat (first|refine nx ?_|(refine z3 fun K hK=>?_;simp only [go_sem];apply hK;clear hK K))
     simp only [go_sem]
 ·have hne:(readyE n p [base] S != 0)=true:=by simpa using he
  rw [if_pos he]
  change Fn Tryz.prog 30 [_,_,.sl [[.i _]],_] _ at h30
  rw [Net.cells,Party.cells] at *
  refine z10 90 Tryz.call15 Tryz.func15 rfl (by decide) fun J=>?_
  simp only [go_sem,St.start,Tryz.ntmps15,Tryz.results15,]
  repeat (first|refine nx ?_|(refine z3 fun K hK=>?_;simp only [go_sem,hne];(repeat (first|(refine⟨_,.lent (hf:=h30) (hd:=rfl) (hr:=rfl),?_⟩;simp only [go_sem,hne])|(refine⟨_,.given (hf:=h30) (hd:=rfl) (ha:=rfl),?_⟩;simp only [go_sem,hne])));apply hK;clear hK K))
  refine z8 (by rfl) ?_
  repeat (first|refine nx ?_|(refine z3 fun K hK=>?_;simp only [go_sem];apply hK;clear hK K))
  simp only [go_sem]
end Go.Ab
namespace Go.Ab
open Go.RowKit Go.Proofs
set_option maxHeartbeats 16000000
set_option maxRecDepth 20000
attribute [local irreducible] WalkL Walk
theorem z209 {n:Net} {p:Party} (h:farM n=false) (hg:n.Good):n.places≤5:=by
 simp only [farM,Bool.or_eq_false_iff,Bool.and_eq_false_iff,decide_eq_false_iff_not,Bool.not_eq_false'] at h
 have hb:badNet n=false:=by
  have:=z113.2 hg
  simpa using this
 rcases h.2.2 with h1 | h1
 ·rw [hb] at h1;cases h1
 ·omega
theorem z1142 {n:Net} {p:Party} {bases:List Int} {b:Int} {S:List SpotT} {mins:Int} (h:farSe ⟨p,bases,S,mins⟩=false):S.length≤5∨readyE n p [b] S≠0:=by
 by_cases he:readyE n p [b] S=0
 ·obtain⟨_,_,hlen,_⟩:=z57 he
  simp only [farSe,Bool.or_eq_false_iff,Bool.and_eq_false_iff,decide_eq_false_iff_not] at h
  left;omega
 ·exact .inr he
theorem z869 (l:List SpotT):headIs 3 (l.map SpotT.row)=true:=by cases l <;> rfl
def baseI:List Int→Int
 | []=>-1
 | b::_=>b
theorem zf9 (x:SearchT) (hb:x.bases.length<2 ^ 30):Fn Tryz.prog 9 [.agg x.row] (.i (baseI x.bases)):=by
 have hrb:=z14 x.bases
 obtain⟨p,bases,S,mins⟩:=x
 dsimp only at hb hrb ⊢
 rw [SearchT.row]
 cases bases with
 | nil =>
  have hrb:(intRows ([]:List Int)).length=0:=rfl
  rw [baseI]
  refine z10 11 Tryz.call9 Tryz.func9 rfl (by decide) fun J=>?_
  simp only [go_sem,St.start,Tryz.ntmps9,Tryz.results9,SearchT.row]
  repeat (first|refine nx ?_|(refine z3 fun K hK=>?_;simp only [go_sem,hrb];apply hK;clear hK K))
  refine z8 (by rfl) ?_
  repeat (first|refine nx ?_|(refine z3 fun K hK=>?_;simp only [go_sem];apply hK;clear hK K))
  simp only [go_sem]
 | cons b t =>
  have g0:(intRows (b::t))[0]?=some [.i b]:=rfl
  have d0:(((t.length + 1:Nat):Int) == 0)=false:=by simp;omega
  have h1:0<t.length + 1:=by omega
  rw [List.length_cons] at hrb
  rw [baseI]
  refine z10 11 Tryz.call9 Tryz.func9 rfl (by decide) fun J=>?_
  simp only [go_sem,St.start,Tryz.ntmps9,Tryz.results9,SearchT.row]
  repeat (first|refine nx ?_|(refine z3 fun K hK=>?_;simp only [go_sem,hrb,d0];apply hK;clear hK K))
  refine z5 (by rfl) ?_
  repeat (first|refine nx ?_|(refine z3 fun K hK=>?_;simp only [go_sem,g0,hrb,h1];apply hK;clear hK K))
  simp only [go_sem]
theorem zf3 (n:Net) (x:SearchT) (to:Int) (hs:n.Small) (hb:x.bases.length<2 ^ 30) (hl:x.spots.length<2 ^ 30):Fn Tryz.prog 3 [.agg n.cells,.agg x.row,.i to] (.bool true):=by
 have h4:=zf4 n hs
 have h5:=zf5 x
 have h6:=zf6
 have h9:=zf9 x hb
 have hsl:(x.spots.map SpotT.row).length=x.spots.length:=by simp
 obtain⟨p,bases,S,mins⟩:=x
 dsimp only at hb hl hsl h9
 obtain⟨B,hB⟩:∃ B,B=baseI bases:=⟨_,rfl⟩
 rw [← hB] at h9
 cases q1:farM n
 case true =>
  rw [q1] at h4
  rw [Net.cells] at *
  rw [SearchT.row] at *
  refine z10 137 Tryz.call3 Tryz.func3 rfl (by decide) fun J=>?_
  simp only [go_sem,St.start,Tryz.ntmps3,Tryz.results3,Net.cells,SearchT.row]
  repeat (first|refine nx ?_|(refine z3 fun K hK=>?_;simp only [go_sem];(repeat (first|(refine⟨_,.lent (hf:=h4) (hd:=rfl) (hr:=rfl),?_⟩;simp only [go_sem])|(refine⟨_,.given (hf:=h4) (hd:=rfl) (ha:=rfl),?_⟩;simp only [go_sem])));apply hK;clear hK K))
  refine z8 (by rfl) ?_
  repeat (first|refine nx ?_|(refine z3 fun K hK=>?_;simp only [go_sem];(repeat (first|(refine⟨_,.lent (hf:=h6) (hd:=rfl) (hr:=rfl),?_⟩;simp only [go_sem])|(refine⟨_,.given (hf:=h6) (hd:=rfl) (ha:=rfl),?_⟩;simp only [go_sem])));apply hK;clear hK K))
  simp only [go_sem]
 case false =>
  cases q2:farSe ⟨p,bases,S,mins⟩
  case true =>
   rw [q1] at h4
   rw [q2] at h5
   rw [Net.cells] at *
   rw [SearchT.row] at *
   refine z10 137 Tryz.call3 Tryz.func3 rfl (by decide) fun J=>?_
   simp only [go_sem,St.start,Tryz.ntmps3,Tryz.results3,Net.cells,SearchT.row]
   repeat (first|refine nx ?_|(refine z3 fun K hK=>?_;simp only [go_sem];(repeat (first|(refine⟨_,.lent (hf:=h4) (hd:=rfl) (hr:=rfl),?_⟩;simp only [go_sem])|(refine⟨_,.lent (hf:=h5) (hd:=rfl) (hr:=rfl),?_⟩;simp only [go_sem])|(refine⟨_,.given (hf:=h4) (hd:=rfl) (ha:=rfl),?_⟩;simp only [go_sem])|(refine⟨_,.given (hf:=h5) (hd:=rfl) (ha:=rfl),?_⟩;simp only [go_sem])));apply hK;clear hK K))
   refine z8 (by rfl) ?_
   repeat (first|refine nx ?_|(refine z3 fun K hK=>?_;simp only [go_sem];(repeat (first|(refine⟨_,.lent (hf:=h6) (hd:=rfl) (hr:=rfl),?_⟩;simp only [go_sem])|(refine⟨_,.given (hf:=h6) (hd:=rfl) (ha:=rfl),?_⟩;simp only [go_sem])));apply hK;clear hK K))
   simp only [go_sem]
  case false =>
   have hl5:=z1142 (n:=n) (b:=B) q2
   have h7:=zf7 n hs
   have h8:=zf8 n p B to hs
   have h10:=z1417 n p B to hs
   have h11:=z1380 n p (allM n p) B S hs hl5 hl (fun _=>rfl) (fun he=>z1194 he (hl5.resolve_right fun h=>h he))
   have h12:=z1416 n p B S hs hl5 hl (fun he=>z209 (p:=p) q1 (z57 he).1)
   have h14:=z1415 n p (allM n p) B S mins hs hl5 hl (fun _=>rfl)
   have h15:=z1414 n p B S mins hs hl5 hl (fun he=>z209 (p:=p) q1 (z57 he).1)
   have hlen:(planC n p (allM n p) B S).1.length<2 ^ 30:=by
    by_cases he:readyE n p [B] S=0
    ·have hS5:=hl5.resolve_right fun h=>h he
     rw [z1102 he hS5 (z209 (p:=p) q1 (z57 he).1)]
     split
     ·rename_i hVf
      have hf:=z223 hS5
      have h1:=(z150 (z929 he hS5 (z209 (p:=p) q1 (z57 he).1)) 5 B.toNat (fullN S) (by have:=(z57 he).1.places;have:=(z57 he).2.2.2.2.2 B (by simp);omega) hf (z114 _ hS5) (z19 _ hf) hVf).1.length_eq
      have h2:=z19 _ hf
      dsimp only
      rw [z361]
      omega
     ·simp
    ·have hw:planC n p (allM n p) B S=([],0,readyE n p [B] S):=by
      unfold planC
      exact if_pos he
     rw [hw]
     simp
   have h13:=z1318 (planC n p (allM n p) B S).1 (planC n p (allM n p) B S).1 hlen
   rw [decide_eq_true rfl] at h13
   obtain⟨W,hW⟩:∃ W,W=wayF n p B to:=⟨_,rfl⟩
   obtain⟨P,hP⟩:∃ P,P=planC n p (allM n p) B S:=⟨_,rfl⟩
   obtain⟨M,hM⟩:∃ M,M=mostC n p (allM n p) B S mins:=⟨_,rfl⟩
   rw [← hW] at h8 h10
   rw [planD,← hP] at h11 h12
   rw [← hP] at h13
   rw [← hM] at h14 h15
   obtain⟨w,e⟩:=W
   obtain⟨o,c,g⟩:=P
   obtain⟨m,k⟩:=M
   dsimp only at h8 h10 h11 h12 h13 h14 h15
   have hcs:S.length≤549755813888:=by omega
   have hhs:=z869 S
   have d1:(w != w)=false:=by simp
   have d2:(e != e)=false:=by simp
   have d3:(c != c)=false:=by simp
   have d4:(g != g)=false:=by simp
   have d5:(m == m)=true:=by simp
   have d6:(k == k)=true:=by simp
   rw [q1] at h4
   rw [q2] at h5
   rw [Net.cells] at *
   rw [SearchT.row] at *
   rw [Party.cells] at h8 h10 h11 h12 h14 h15
   refine z10 137 Tryz.call3 Tryz.func3 rfl (by decide) fun J=>?_
   simp only [go_sem,St.start,Tryz.ntmps3,Tryz.results3,Net.cells,SearchT.row]
   repeat (first|refine nx ?_|(refine z3 fun K hK=>?_;simp only [go_sem];(repeat (first|(refine⟨_,.lent (hf:=h4) (hd:=rfl) (hr:=rfl),?_⟩;simp only [go_sem])|(refine⟨_,.lent (hf:=h5) (hd:=rfl) (hr:=rfl),?_⟩;simp only [go_sem])|(refine⟨_,.given (hf:=h4) (hd:=rfl) (ha:=rfl),?_⟩;simp only [go_sem])|(refine⟨_,.given (hf:=h5) (hd:=rfl) (ha:=rfl),?_⟩;simp only [go_sem])));apply hK;clear hK K))
   refine z5 (by rfl) ?_
   repeat refine nx ?_
   refine z300 [35] (by kernel_rfl) (by kernel_rfl) fun K hK=>?_
   simp only [go_sem,hsl,hcs,hhs,List.nil_append,List.length_nil,List.length_map,Nat.zero_add]
   refine⟨_,.fn (hf:=h7) (hd:=rfl) (hr:=.inr rfl),?_⟩
   simp only [go_sem,hsl,hcs,hhs,List.nil_append,List.length_nil,List.length_map,Nat.zero_add]
   refine⟨by kernel_rfl,hK _ ?_⟩
   clear hK K
   repeat refine nx ?_
   refine z7 (by kernel_rfl) (by kernel_rfl) fun K hK=>?_
   simp only [go_sem]
   refine⟨_,.fn (hf:=h9) (hd:=rfl) (hr:=.inl rfl),?_⟩
   simp only [go_sem]
   refine⟨_,.fn (hf:=h8) (hd:=rfl) (hr:=.inl rfl),?_⟩
   simp only [go_sem]
   refine⟨by kernel_rfl,hK _ ?_⟩
   clear hK K
   repeat refine nx ?_
   refine z7 (by kernel_rfl) (by kernel_rfl) fun K hK=>?_
   simp only [go_sem]
   refine⟨_,.fn (hf:=h9) (hd:=rfl) (hr:=.inl rfl),?_⟩
   simp only [go_sem]
   refine⟨_,.fn (hf:=h10) (hd:=rfl) (hr:=.inl rfl),?_⟩
   simp only [go_sem]
   refine⟨by kernel_rfl,hK _ ?_⟩
   clear hK K
   repeat (first|refine nx ?_|(refine z3 fun K hK=>?_;simp only [go_sem,d1,d2];apply hK;clear hK K))
   refine z5 (by rfl) ?_
   repeat refine nx ?_
   refine z7 (by kernel_rfl) (by kernel_rfl) fun K hK=>?_
   simp only [go_sem]
   refine⟨_,.fn (hf:=h9) (hd:=rfl) (hr:=.inl rfl),?_⟩
   simp only [go_sem]
   refine⟨_,.fn (hf:=h11) (hd:=rfl) (hr:=.inr rfl),?_⟩
   simp only [go_sem]
   refine⟨by kernel_rfl,hK _ ?_⟩
   clear hK K
   repeat refine nx ?_
   refine z7 (by kernel_rfl) (by kernel_rfl) fun K hK=>?_
   simp only [go_sem]
   refine⟨_,.fn (hf:=h9) (hd:=rfl) (hr:=.inl rfl),?_⟩
   simp only [go_sem]
   refine⟨_,.fn (hf:=h12) (hd:=rfl) (hr:=.inr rfl),?_⟩
   simp only [go_sem]
   refine⟨by kernel_rfl,hK _ ?_⟩
   clear hK K
   repeat (first|refine nx ?_|(refine z3 fun K hK=>?_;simp only [go_sem,d3,d4];(repeat (first|(refine⟨_,.lent (hf:=h13) (hd:=rfl) (hr:=rfl),?_⟩;simp only [go_sem,d3,d4])|(refine⟨_,.given (hf:=h13) (hd:=rfl) (ha:=rfl),?_⟩;simp only [go_sem,d3,d4])));apply hK;clear hK K))
   refine z5 (by rfl) ?_
   repeat refine nx ?_
   refine z7 (by kernel_rfl) (by kernel_rfl) fun K hK=>?_
   simp only [go_sem]
   refine⟨_,.fn (hf:=h9) (hd:=rfl) (hr:=.inl rfl),?_⟩
   simp only [go_sem]
   refine⟨_,.fn (hf:=h14) (hd:=rfl) (hr:=.inl rfl),?_⟩
   simp only [go_sem]
   refine⟨by kernel_rfl,hK _ ?_⟩
   clear hK K
   repeat refine nx ?_
   refine z7 (by kernel_rfl) (by kernel_rfl) fun K hK=>?_
   simp only [go_sem]
   refine⟨_,.fn (hf:=h9) (hd:=rfl) (hr:=.inl rfl),?_⟩
   simp only [go_sem]
   refine⟨_,.fn (hf:=h15) (hd:=rfl) (hr:=.inl rfl),?_⟩
   simp only [go_sem]
   refine⟨by kernel_rfl,hK _ ?_⟩
   clear hK K
   repeat (first|refine nx ?_|(refine z3 fun K hK=>?_;simp only [go_sem,d5,d6];(repeat (first|(refine⟨_,.lent (hf:=h6) (hd:=rfl) (hr:=rfl),?_⟩;simp only [go_sem,d5,d6])|(refine⟨_,.given (hf:=h6) (hd:=rfl) (ha:=rfl),?_⟩;simp only [go_sem,d5,d6])));apply hK;clear hK K))
   simp only [go_sem]
end Go.Ab
namespace Go.Ab
open Go.RowKit Go.Proofs Go.ChangeShapes Go.WideShapes Go.Proofs.YtfkbbaagifpjpaaGreatDoor
set_option linter.unusedVariables false
set_option maxRecDepth 100000
def spotS:List Sh:=[iS,iS,iS]
def searchS:List Sh:=[iS,iS,iS,iS,.sl [iS],.sl spotS,iS]
theorem z1248 {N:Nat} {r:List DV} (h:Sh.fitsL N spotS r):∃ x:SpotT,r=x.row∧True:=by
 simp only [spotS,iS,Sh.fitsL,Sh.fits] at h
 obtain⟨_,_,rfl,⟨a,rfl,_⟩,_,_,rfl,⟨b,rfl,_⟩,_,_,rfl,⟨c,rfl,_⟩,rfl⟩:=h
 exact⟨⟨a,b,c⟩,rfl,trivial⟩
theorem z1089 {N:Nat} (hN:N<2 ^ 30) {r:List DV} (h:Sh.fitsL N searchS r):∃ x:SearchT,r=x.row∧x.bases.length<2 ^ 30∧x.spots.length<2 ^ 30:=by
 simp only [searchS] at h
 simp only [iS,Sh.fitsL,Sh.fits] at h
 obtain⟨_,_,rfl,⟨a,rfl,_⟩,_,_,rfl,⟨b,rfl,_⟩,_,_,rfl,⟨c,rfl,_⟩,_,_,rfl,⟨d,rfl,_⟩,_,_,rfl,⟨rows,rfl,hl,hr⟩,_,_,rfl,⟨rows2,rfl,hl2,hr2⟩,_,_,rfl,⟨e,rfl,_⟩,rfl⟩:=h
 obtain⟨l,rfl,_⟩:=z353 (row:=fun i:Int=>[DV.i i]) (fun r h=>z1301 (N:=N) (by simp only [iS,Sh.fitsL,Sh.fits];exact hr r h))
 obtain⟨S,rfl,_⟩:=z353 (fun r h=>z1248 (hr2 r h))
 have e1:l.length≤N:=by simpa using hl
 have e2:S.length≤N:=by simpa using hl2
 exact⟨⟨⟨a,b,⟨c,d⟩⟩,l,S,e⟩,rfl,by show l.length<2 ^ 30;omega,by show S.length<2 ^ 30;omega⟩
theorem z1178:shapes Tryz.prog 20 32=some searchS:=by kernel_rfl
theorem z1188:Rd 32 (fun x=>∃ y:SearchT,x=.agg y.row∧y.bases.length<2 ^ 30∧y.spots.length<2 ^ 30) :=
 ⟨by kernel_rfl,of_decide_eq_true (by kernel_rfl),fun H enc w base v d ps hok h hd=>by
  obtain⟨e0,hf0,r0⟩:=z952 z1178 (by decide) h hd
  obtain⟨x,rfl,hx⟩:=z1089 (by decide) hf0
  exact⟨_,⟨x,rfl,hx⟩,r0⟩⟩
abbrev aS:TypeId × (DV→Prop):=(32,fun x=>∃ y:SearchT,x=.agg y.row∧y.bases.length<2 ^ 30∧y.spots.length<2 ^ 30)
end Go.Ab
