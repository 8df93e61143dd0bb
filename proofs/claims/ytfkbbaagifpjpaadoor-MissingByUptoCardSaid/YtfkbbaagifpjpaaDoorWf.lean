/- A walk engine over abstract states, and the contracts of the functions that the statement reaches: part 6. -/
import Derived.Test.YtfkbbaagifpjpaaDoorWe
set_option linter.unusedVariables false
set_option linter.unusedSimpArgs false
set_option linter.unnecessarySimpa false
namespace Go.Ab
open Go.RowKit Go.Proofs
set_option maxHeartbeats 16000000
set_option maxRecDepth 20000
attribute [local irreducible] WalkL Walk
def entsP (v:Nat × Nat→Int):List (Nat × Nat)→Nat→List (MK × DV × Nat)
 | [],_=>[]
 | q::l,k=>(keyB q.1 q.2,.i (v q),k)::entsP v l (k + 1)
theorem z506 {v:Nat × Nat→Int} {q:Nat × Nat}:∀ {l:List (Nat × Nat)} {k i:Nat},q ∈ l→∃ j b,findE (entsP v l k) (keyB q.1 q.2) i=some (j,.i (v q),b)
 | [],_,_,h=>by simp at h
 | x::l,k,i,h=>by
  rw [entsP,findE]
  by_cases hx:q=x
  ·rw [if_pos (by rw [hx]),hx];exact⟨_,_,rfl⟩
  ·rw [if_neg (by rw [z928];exact fun e=>hx (by cases q;cases x;simpa using e))]
   exact z506 ((List.mem_cons.1 h).resolve_left hx)
theorem z505 {v:Nat × Nat→Int} {q:Nat × Nat}:∀ {l:List (Nat × Nat)} {k i:Nat},q ∉ l→findE (entsP v l k) (keyB q.1 q.2) i=none
 | [],_,_,_=>rfl
 | x::l,k,i,h=>by
  rw [entsP,findE,if_neg (by rw [z928];exact fun e=>h (by simp [show q=x by cases q;cases x;simpa using e]))]
  exact z505 fun hc=>h (by simp [hc])
theorem z504 (v:Nat × Nat→Int) (q:Nat × Nat):∀ (l:List (Nat × Nat)) (k:Nat),entsP v (l++[q]) k=entsP v l k++[(keyB q.1 q.2,.i (v q),k + l.length)]
 | [],k=>by simp [entsP]
 | x::l,k=>by
  rw [List.cons_append,entsP,z504 v q l,entsP,List.length_cons,show k + 1 + l.length=k + (l.length + 1) by omega]
  rfl
def pairsD (u:Nat):List (Nat × Nat):=(List.range u).flatMap fun s=>(elems s).map fun i=>(i,s)
def pairsAt (u j:Nat):List (Nat × Nat):=pairsD u++((elems u).take j).map fun i=>(i,u)
theorem z727 (u:Nat):pairsAt u 0=pairsD u:=by simp [pairsAt]
theorem z313 {u j i:Nat} (h:(elems u)[j]?=some i):pairsAt u (j + 1)=pairsAt u j++[(i,u)]:=by
 rw [pairsAt,pairsAt,List.take_add_one,h,List.map_append]
 simp
theorem z920 (u:Nat):pairsAt u (elems u).length=pairsD (u + 1):=by
 rw [pairsAt,List.take_length,pairsD,pairsD,List.range_succ,List.flatMap_append]
 simp
theorem z1059 {u i s:Nat} (hs:s<u) (hi:i ∈ elems s):(i,s) ∈ pairsD u:=by
 rw [pairsD,List.mem_flatMap]
 exact⟨s,List.mem_range.2 hs,List.mem_map.2 ⟨i,hi,rfl⟩⟩
theorem z919 {u j i:Nat} (h:(elems u)[j]?=some i):(i,u) ∉ pairsAt u j:=by
 intro hc
 rcases List.mem_append.1 hc with hc | hc
 ·rw [pairsD,List.mem_flatMap] at hc
  obtain⟨s,hs,hm⟩:=hc
  obtain⟨x,_,hx⟩:=List.mem_map.1 hm
  have:=congrArg Prod.snd hx
  have:=List.mem_range.1 hs
  dsimp only at *
  omega
 ·obtain⟨x,hx,he⟩:=List.mem_map.1 hc
  have hxi:x=i:=congrArg Prod.fst he
  subst hxi
  obtain⟨a,ha⟩:=List.mem_iff_getElem?.1 hx
  rw [List.getElem?_take] at ha
  split at ha
  ·rename_i hlt
   have:=z129 (z384 u) ha h
   omega
  ·cases ha
def lstepV (F:Mat) (S:List SpotT) (b bf last:Nat) (a:Int) (i:Nat):Int:=min a (wr (doneV F S b 5 bf i + minW F S (nextP S i) last))
theorem z1258 (F:Mat) (S:List SpotT) (b:Nat) {u i:Nat} (hu:u<32) (hi:i ∈ elems u):(elems (u - 2 ^ i)).foldl (lstepV F S b (u - 2 ^ i) i) (if u - 2 ^ i=0 then minW F S b i else farW)=doneV F S b 5 u i:=by
 have e:doneV F S b 5 u i=if u - 2 ^ i=0 then minW F S b i else (elems (u - 2 ^ i)).foldl (fun a j=>min a (wr (doneV F S b 4 (u - 2 ^ i) j + minW F S (nextP S j) i))) farW:=rfl
 rw [e]
 by_cases h0:u - 2 ^ i=0
 ·rw [if_pos h0,if_pos h0,h0,z38];rfl
 ·rw [if_neg h0,if_neg h0]
  refine z137 _ _ fun a j hj=>?_
  obtain⟨u1,u2,_⟩:=z35 hu hi
  rw [lstepV,z514 5 4 (u - 2 ^ i) j u1 hj (z40 _ u1) (by have:=z40 u hu;omega)]
theorem z1326 {α:Type} (q:α→Bool) {l:List α} {j:Nat} {x:α} (h:l[j]?=some x):(l.take (j + 1)).any q=((l.take j).any q || q x):=by
 rw [List.take_add_one,h,List.any_append]
 simp
def mostC (n:Net) (p:Party) (F:Mat) (base:Int) (S:List SpotT) (mi:Int):Int × Int :=
 if readyE n p [base] S≠0 then (0,readyE n p [base] S) else if withinB mi 0 2880=true then (mostV F S base.toNat mi,0) else (0,1)
theorem z1428 (n:Net) (p:Party) (F:Mat) (base:Int) (S:List SpotT) (mi:Int) (hs:n.Small) (hl:S.length≤5∨readyE n p [base] S≠0) (hl2:S.length<2 ^ 30) (hF:readyE n p [base] S=0→matM n.places.toNat (allM n p)=matM n.places.toNat F) :
  Fn Tryd.prog 31 [.agg n.cells,.agg p.cells,.i base,.sl (S.map SpotT.row),.i mi] (.tup [.i (mostC n p F base S mi).1,.i (mostC n p F base S mi).2]):=by
 have h53:=z1425 n p [base] S hs (by simp) hl2
 have h68:=z1095 mi 0 2880
 rw [mostC]
 by_cases he:readyE n p [base] S=0
 ·obtain⟨hg,hp,hlen,hsp,_,hbase⟩:=z100 he
  have hb:=hbase base (by simp)
  have hpl:=hg.places
  have hl5:S.length≤5:=hl.resolve_right fun h=>h he
  obtain⟨b,rfl⟩:∃ b:Nat,base=b:=⟨base.toNat,by omega⟩
  have hbm:b<n.places.toNat:=by omega
  have hS:SpotsOk n.places.toNat S:=⟨hl5,fun s hs=>by have:=(hsp s hs).1;omega⟩
  rw [readyD,he,if_pos rfl,rescN,rescC,hF he] at h53
  rw [if_neg (fun h=>h he)]
  rw [Int.toNat_natCast]
  obtain⟨TD,hTD⟩:∃ TD,TD=timesD n p:=⟨_,rfl⟩
  rw [← hTD] at h53
  have h56:=z1423 (.i n.places) (.sl (n.paths.map Path.row)) TD n.places.toNat F S hl5
  have h71:=z1418 (.i n.places) (.sl (n.paths.map Path.row)) TD n.places.toNat F S hS
  have h72:=z1417 (.i n.places) (.sl (n.paths.map Path.row)) TD n.places.toNat F S
  simp only [rescC,uD] at h56 h71 h72
  cases hw:withinB mi 0 2880
  case false =>
   rw [hw] at h68
   rw [if_neg (by decide)]
   refine z11 94 Tryd.call31 Tryd.func31 rfl (by decide) fun J=>?_
   simp only [go_sem,St.start,Tryd.ntmps31,Tryd.results31,Net.cells,Party.cells]
   repeat (first|refine nx ?_|(refine z3 fun K hK=>?_;simp only [go_sem];(repeat (first|(refine⟨_,.lent (hf:=h53) (hd:=rfl) (hr:=rfl),?_⟩;simp only [go_sem])|(refine⟨_,.lent (hf:=h68) (hd:=rfl) (hr:=rfl),?_⟩;simp only [go_sem])|(refine⟨_,.given (hf:=h53) (hd:=rfl) (ha:=rfl),?_⟩;simp only [go_sem])|(refine⟨_,.given (hf:=h68) (hd:=rfl) (ha:=rfl),?_⟩;simp only [go_sem])));apply hK;clear hK K))
   refine z10 (by rfl) ?_
   repeat (first|refine nx ?_|(refine z3 fun K hK=>?_;simp only [go_sem];apply hK;clear hK K))
   refine z10 (by rfl) ?_
   repeat (first|refine nx ?_|(refine z3 fun K hK=>?_;simp only [go_sem];apply hK;clear hK K))
   simp only [go_sem]
  case true =>
   rw [hw] at h68
   rw [if_pos rfl]
   refine z11 94 Tryd.call31 Tryd.func31 rfl (by decide) fun J=>?_
   simp only [go_sem,St.start,Tryd.ntmps31,Tryd.results31,Net.cells,Party.cells]
   repeat (first|refine nx ?_|(refine z3 fun K hK=>?_;simp only [go_sem];(repeat (first|(refine⟨_,.lent (hf:=h53) (hd:=rfl) (hr:=rfl),?_⟩;simp only [go_sem])|(refine⟨_,.lent (hf:=h68) (hd:=rfl) (hr:=rfl),?_⟩;simp only [go_sem])|(refine⟨_,.given (hf:=h53) (hd:=rfl) (ha:=rfl),?_⟩;simp only [go_sem])|(refine⟨_,.given (hf:=h68) (hd:=rfl) (ha:=rfl),?_⟩;simp only [go_sem])));apply hK;clear hK K))
   refine z6 (by rfl) ?_
   repeat (first|refine nx ?_|(refine z3 fun K hK=>?_;simp only [go_sem];apply hK;clear hK K))
   refine z6 (by rfl) ?_
   repeat (first|refine nx ?_|(refine z3 fun K hK=>?_;simp only [go_sem];apply hK;clear hK K))
   have hf32:=z194 hl5
   obtain⟨v,hv⟩:∃ v:Nat × Nat→Int,v=fun q=>doneV F S b 5 q.2 q.1:=⟨_,rfl⟩
   obtain⟨mst,hmst⟩:∃ f:Int→Nat→Int,f=fun a s=>if byB F S b mi s then max a (weightW S s) else a:=⟨_,rfl⟩
   obtain⟨RES,hRES⟩:∃ R,R=mostV F S b mi:=⟨_,rfl⟩
   rw [← hRES]
   rw [mostV,← hmst] at hRES
   refine z14 (fun (_:Nat × Int)=>[(16,.box 16 0),(17,.undef),(18,.undef),(19,.undef),(20,.undef)]) (fun a=>[(16,some (.box [.d (.int .u64 (a.1:Int))])),(15,some (.box [.d (.i a.2)])),(40,some (.mp (some [.i64,.u64]) (entsP v (pairsD a.1) 0) (pairsD a.1).length))])
    (fun a=>(1≤a.1∧a.1≤fullN S + 1)∧a.2=(List.range a.1).foldl mst 0) (fun a=>fullN S + 1 - a.1) (1,0) ?_ ⟨⟨Nat.le_refl _,by omega⟩,by
     rw [hmst]
     simp [List.range_succ,byB,z38]⟩ ?_
   ·have hp1:pairsD 1=[]:=by simp [pairsD,List.range_succ,z38]
    simp only [go_sem,hp1,entsP,List.length_nil]
    refine weA ?_ ?_ <;> simp
   ·rintro⟨u,most⟩ ⟨⟨hu1,hu2⟩,hmo⟩
    dsimp only at hu1 hu2 hmo
    simp only [go_sem]
    repeat (first|refine nx ?_|(refine z3 fun K hK=>?_;simp only [go_sem];apply hK;clear hK K))
    refine z7 (by kernel_rfl) (by kernel_rfl) fun K hK=>?_
    simp only [go_sem]
    refine⟨_,.fn (hf:=h56) (hd:=rfl) (hr:=.inl rfl),?_⟩
    simp only [go_sem]
    refine⟨by kernel_rfl,hK _ ?_⟩
    clear hK K
    refine z5 rfl (fun hb=>?_) (fun hb=>?_)
    ·have hul:u≤fullN S:=by
      have:=of_decide_eq_true hb
      rw [fullN]
      omega
     have hu:u<32:=by omega
     have hwu:IntKind.u64.wrap ((u:Int) + 1)=((u + 1:Nat):Int):=by
      simp only [IntKind.wrap,IntKind.bits,IntKind.signed,Bool.false_and,Bool.false_eq_true,if_false]
      omega
     have huS:∀ i ∈ elems u,i<S.length:=z943 u hu S.length hl5 (by rw [fullN] at hul;have:=Nat.two_pow_pos S.length;omega)
     have h70:=z1366 u
     have hit:=z971 u hu
     have h72u:=h72 u hu huS
     obtain⟨N,hN⟩:∃ N,N=elems u:=⟨_,rfl⟩
     rw [elRows,← hN] at hit
     simp only [uD] at h70 hit
     repeat refine nx ?_
     refine z3 fun K hK=>?_
     simp only [go_sem]
     refine⟨_,.made (news:=[48]) (hf:=h70) (hd:=rfl) (hn:=by decide) (hl:=rfl) (hnew:=rfl) (hx:=rfl),?_⟩
     simp only [go_sem,List.map_cons,List.map_nil]
     apply hK
     clear hK K
     refine z36 ?_
     obtain⟨MS,hMS⟩:∃ f:List Nat→Int,f=fun l=>if l.any (fun i=>decide (doneV F S b 5 u i≤mi)) then max most (weightW S u) else most:=⟨_,rfl⟩
     refine z230 (fun _ h=>by cases h) [48] (m0:=[.box [.d (.int .u64 (u:Int))]]) rfl (by decide) rfl hit (by intro row hr;obtain⟨w,_,rfl⟩:=List.mem_map.1 hr;rfl) (fun _=>[])
      (fun (a:Nat × Int)=>[(15,some (.box [.d (.i a.2)])),(40,some (.mp (some [.i64,.u64]) (entsP v (pairsAt u a.1) 0) (pairsAt u a.1).length))])
      (fun j a=>a.1=j∧a.2=MS (N.take j)) (fun _ _=>False) (0,most) ?_ ⟨rfl,by rw [hMS];rfl⟩ ?_ ?_ (fun _ _ h=>h.elim)
     ·simp only [go_sem,z727]
      refine weA ?_ ?_ <;> simp
     ·rintro X0 W0 j ⟨j',mo⟩ row hj ⟨hj1,hmj⟩ l1 m1
      dsimp only at hj1 hmj
      subst hj1
      rw [List.getElem?_map,Option.map_eq_some_iff] at hj
      obtain⟨i,hi2,rfl⟩:=hj
      simp only [go_sem]
      repeat (first|refine nx ?_|(refine z3 fun K hK=>?_;simp only [go_sem];apply hK;clear hK K))
      intro J2 hJ2
      have him:i ∈ elems u:=by rw [← hN];exact List.mem_of_getElem? hi2
      have hiN:(elems u)[j']?=some i:=by rw [← hN];exact hi2
      have hiS:=huS i him
      have hi5:=z253 him
      obtain⟨u1,u2,u3⟩:=z35 hu him
      have hsh:=z594 u hu i hi5 him
      obtain⟨bf,hbf⟩:∃ bf,bf=u - 2 ^ i:=⟨_,rfl⟩
      have hleq:=z1258 F S b hu him
      have hbfu:bf<u:=by rw [hbf];have:=Nat.two_pow_pos i;omega
      rw [← hbf] at u1 u2 u3 hsh hleq
      have ni:¬ ((i:Int)<0):=by omega
      have h70b:=z1366 bf
      have hit2:=z971 bf u1
      obtain⟨B,hB⟩:∃ B,B=elems bf:=⟨_,rfl⟩
      rw [elRows,← hB] at hit2
      rw [← hB] at hleq
      simp only [uD] at h70b hit2
      obtain⟨ini,hini⟩:∃ ini:Int,ini=if bf=0 then minW F S b i else farW:=⟨_,rfl⟩
      rw [← hini] at hleq
      have h71b:=h71 b i hbm hiS
      refine z36 ?_
      repeat (first|refine z19 ?_|refine z31 ?_)
      refine z7 (by kernel_rfl) (by kernel_rfl) fun K hK=>?_
      simp only [go_sem,ni,hsh]
      refine⟨by kernel_rfl,hK _ ?_⟩
      clear hK K
      repeat (first|refine nx ?_|(refine z3 fun K hK=>?_;simp only [go_sem];apply hK;clear hK K))
      refine z23 [] [(19,some (.box [.d (.i ini)]))] ?_ ?_
      ·by_cases h0:bf=0
       ·have hz:((bf:Int) == 0)=true:=by simp [h0]
        rw [if_pos h0] at hini
        refine z5 (b:=true) (by rw [← hz];rfl) (fun _=>?_) (fun hc=>by cases hc)
        repeat (first|refine nx ?_|(refine z3 fun K hK=>?_;simp only [go_sem];(repeat (first|(refine⟨_,.lent (hf:=h71b) (hd:=rfl) (hr:=rfl),?_⟩;simp only [go_sem])|(refine⟨_,.given (hf:=h71b) (hd:=rfl) (ha:=rfl),?_⟩;simp only [go_sem])));apply hK;clear hK K))
        refine⟨rfl,?_⟩
        rw [hini]
        try simp only [go_sem]
        refine weA ?_ ?_ <;> simp
       ·have hz:((bf:Int) == 0)=false:=by simp [h0]
        rw [if_neg h0] at hini
        refine z5 (b:=false) (by rw [← hz];rfl) (fun hc=>by cases hc) (fun _=>?_)
        repeat (first|refine nx ?_|(refine z3 fun K hK=>?_;simp only [go_sem];apply hK;clear hK K))
        refine⟨rfl,?_⟩
        rw [hini]
        try simp only [go_sem,farW]
        refine weA ?_ ?_ <;> simp
      ·simp only [go_sem]
       repeat refine nx ?_
       refine z3 fun K hK=>?_
       simp only [go_sem]
       refine⟨_,.made (news:=[61]) (hf:=h70b) (hd:=rfl) (hn:=by decide) (hl:=rfl) (hnew:=rfl) (hx:=rfl),?_⟩
       simp only [go_sem,List.map_cons,List.map_nil]
       apply hK
       clear hK K
       repeat refine nx ?_
       refine z230 (fun _ h=>by cases h;exact hJ2) [61] (m0:=[.box [.d (.int .u64 (bf:Int))]]) rfl (by decide) rfl hit2 (by intro row hr;obtain⟨w,_,rfl⟩:=List.mem_map.1 hr;rfl) (fun _=>[])
        (fun (a:Int)=>[(19,some (.box [.d (.i a)]))]) (fun q a=>a=(B.take q).foldl (lstepV F S b bf i) ini) (fun _ _=>False) ini ?_ rfl ?_ ?_ (fun _ _ h=>h.elim)
       ·simp only [go_sem]
        refine weA ?_ ?_ <;> simp
       ·rintro X1 W1 q a row hq ha l2 m2
        rw [List.getElem?_map,Option.map_eq_some_iff] at hq
        obtain⟨k,hk,rfl⟩:=hq
        have hkm:k ∈ elems bf:=by rw [← hB];exact List.mem_of_getElem? hk
        have hkS:=huS k (u3 k hkm)
        have hkpl:=hS.pl (spotAt S k) (List.mem_of_getElem? (z53 hkS))
        have hkq:(spotAt S k).pl=(nextP S k:Int):=by rw [nextP];omega
        have g0:(S.map SpotT.row)[k]?=some [.i (nextP S k:Int),.i (spotAt S k).wt,.i (spotAt S k).se]:=by rw [← hkq,List.getElem?_map,z53 hkS];rfl
        have l0:k<(S.map SpotT.row).length:=by simpa using hkS
        have nk:¬ ((k:Int)<0):=by omega
        have h71k:=h71 (nextP S k) i (by omega) hiS
        obtain⟨jj,bb,hfind⟩:=z506 (v:=v) (q:=(k,bf)) (l:=pairsAt u j') (k:=0) (i:=0) (List.mem_append.2 (.inl (z1059 hbfu hkm)))
        dsimp only [keyB] at hfind
        have hvv:v (k,bf)=doneV F S b 5 bf k:=by rw [hv]
        rw [hvv] at hfind
        have hnx:(B.take (q + 1)).foldl (lstepV F S b bf i) ini=lstepV F S b bf i a k:=by rw [z28 _ _ _ _ _ hk,← ha]
        rw [lstepV,wr] at hnx
        simp only [go_sem]
        repeat (first|refine nx ?_|(refine z3 fun K hK=>?_;simp only [go_sem];apply hK;clear hK K))
        intro J3 hJ3
        refine z36 ?_
        repeat (first|refine z19 ?_|refine z31 ?_)
        refine z7 (by kernel_rfl) (by kernel_rfl) fun K hK=>?_
        simp only [go_sem,g0,l0,nk,hfind]
        refine⟨_,.fn (hf:=h71k) (hd:=rfl) (hr:=.inl rfl),?_⟩
        simp only [go_sem]
        refine⟨by kernel_rfl,hK _ ?_⟩
        clear hK K
        repeat (first|refine nx ?_|(refine z3 fun K hK=>?_;simp only [go_sem];apply hK;clear hK K))
        refine⟨rfl,_,?_,hnx.symm⟩
        simp only [go_sem]
        refine weA ?_ ?_ <;> simp
       ·intro a ha
        rw [List.length_map,List.take_length,hleq] at ha
        have hnone:=z505 (v:=v) (q:=(i,u)) (l:=pairsAt u j') (k:=0) (i:=0) (z919 hiN)
        dsimp only [keyB] at hnone
        have hpush:=z504 v (i,u) (pairsAt u j') 0
        rw [← z313 hiN] at hpush
        dsimp only [keyB] at hpush
        have hvv:v (i,u)=a:=by rw [hv,ha]
        rw [hvv,Nat.zero_add] at hpush
        have hplen:(pairsAt u (j' + 1)).length=(pairsAt u j').length + 1:=by rw [z313 hiN];simp
        have hms:MS (N.take (j' + 1))=if a≤mi then max mo (weightW S u) else mo:=by
         rw [hmj,hMS]
         dsimp only
         rw [z1326 _ hi2,← ha]
         by_cases h1:(N.take j').any (fun i=>decide (doneV F S b 5 u i≤mi))=true
         ·rw [h1,Bool.true_or,if_pos rfl]
          split <;> omega
         ·have h1:(N.take j').any (fun i=>decide (doneV F S b 5 u i≤mi))=false:=by simpa using h1
          rw [h1,Bool.false_or]
          by_cases h2:a≤mi
          ·simp [h2]
          ·simp [h2]
        simp only [go_sem]
        by_cases hle:a≤mi
        ·have hd:decide (a≤mi)=true:=decide_eq_true hle
         rw [if_pos hle] at hms
         repeat (first|refine nx ?_|(refine z3 fun K hK=>?_;simp only [go_sem,hnone,hd];apply hK;clear hK K))
         refine z10 (by rfl) ?_
         repeat (first|refine nx ?_|(refine z3 fun K hK=>?_;simp only [go_sem];apply hK;clear hK K))
         refine z7 (by kernel_rfl) (by kernel_rfl) fun K hK=>?_
         simp only [go_sem]
         refine⟨_,.fn (hf:=h72u) (hd:=rfl) (hr:=.inl rfl),?_⟩
         simp only [go_sem]
         refine⟨by kernel_rfl,hK _ ?_⟩
         clear hK K
         repeat (first|refine nx ?_|(refine z3 fun K hK=>?_;simp only [go_sem];apply hK;clear hK K))
         refine⟨rfl,(j' + 1,max mo (weightW S u)),?_,rfl,hms.symm⟩
         simp only [go_sem,← hpush,hplen]
         refine weA ?_ ?_ <;> simp
        ·have hd:decide (a≤mi)=false:=decide_eq_false hle
         rw [if_neg hle] at hms
         repeat (first|refine nx ?_|(refine z3 fun K hK=>?_;simp only [go_sem,hnone,hd];apply hK;clear hK K))
         refine z6 (by rfl) ?_
         repeat (first|refine nx ?_|(refine z3 fun K hK=>?_;simp only [go_sem];apply hK;clear hK K))
         refine⟨rfl,(j' + 1,mo),?_,rfl,hms.symm⟩
         simp only [go_sem,← hpush,hplen]
         refine weA ?_ ?_ <;> simp
     ·rintro⟨j',mo⟩ ⟨hj1,hmj⟩
      dsimp only at hj1 hmj
      rw [List.length_map] at hj1 hmj
      subst hj1
      rw [List.take_length] at hmj
      rw [hN,z920]
      have hnx:(List.range (u + 1)).foldl mst 0=mo:=by
       rw [z60,← hmo,hmj,hMS,hmst,hN]
       rfl
      simp only [go_sem]
      repeat refine nx ?_
      refine z3 fun K hK=>?_
      simp only [go_sem]
      apply hK
      clear hK K
      refine z995 [16] ?_ ?_
      ·simp only [go_sem]
       refine weA ?_ ?_ <;> simp
      simp only [go_sem]
      repeat (first|refine nx ?_|(refine z3 fun K hK=>?_;simp only [go_sem,hwu];apply hK;clear hK K))
      refine⟨rfl,(u + 1,mo),?_,⟨⟨by omega,by omega⟩,hnx.symm⟩,by dsimp only;omega⟩
      try simp only [go_sem]
      refine weA ?_ ?_ <;> simp
    ·have he:u=fullN S + 1:=by
      have:=of_decide_eq_false hb
      rw [fullN] at hu2 ⊢
      omega
     subst he
     rw [← hRES] at hmo
     rw [← hmo]
     repeat (first|refine nx ?_|(refine z3 fun K hK=>?_;simp only [go_sem];apply hK;clear hK K))
     simp only [go_sem]
 ·have hne:(readyE n p [base] S != 0)=true:=by simpa using he
  have hne2:(readyE n p [base] S == 0)=false:=by simpa using he
  rw [if_pos he]
  rw [readyD,if_neg he] at h53
  change Fn Tryd.prog 53 [_,_,.sl [[.i base]],_] _ at h53
  refine z11 94 Tryd.call31 Tryd.func31 rfl (by decide) fun J=>?_
  simp only [go_sem,St.start,Tryd.ntmps31,Tryd.results31,Net.cells,Party.cells]
  rw [Net.cells,Party.cells] at h53
  repeat (first|refine nx ?_|(refine z3 fun K hK=>?_;simp only [go_sem,hne,hne2];(repeat (first|(refine⟨_,.lent (hf:=h53) (hd:=rfl) (hr:=rfl),?_⟩;simp only [go_sem,hne,hne2])|(refine⟨_,.given (hf:=h53) (hd:=rfl) (ha:=rfl),?_⟩;simp only [go_sem,hne,hne2])));apply hK;clear hK K))
  refine z6 (by rfl) ?_
  repeat (first|refine nx ?_|(refine z3 fun K hK=>?_;simp only [go_sem,hne,hne2];apply hK;clear hK K))
  refine z10 (by rfl) ?_
  repeat (first|refine nx ?_|(refine z3 fun K hK=>?_;simp only [go_sem];apply hK;clear hK K))
  simp only [go_sem]
end Go.Ab
namespace Go.Ab
open Go.RowKit Go.Proofs
set_option maxHeartbeats 4000000
theorem z1157 {F:Mat} {S:List SpotT} {b:Nat} {mi:Int} {s:Nat} (hs:s≤fullN S) (hb:byB F S b mi s=true):weightW S s≤mostV F S b mi :=
 (z328 (byB F S b mi) (weightW S) (List.range (fullN S + 1)) 0).1.2 s (List.mem_range.2 (by omega)) hb
theorem z221 {F:Mat} {S:List SpotT} {b:Nat} {mi:Int}:0≤mostV F S b mi:=(z328 (byB F S b mi) (weightW S) (List.range (fullN S + 1)) 0).1.1
theorem z486 (F:Mat) (S:List SpotT) (b:Nat) (mi:Int):mostV F S b mi=0∨∃ s,s≤fullN S∧byB F S b mi s=true∧mostV F S b mi=weightW S s:=by
 rcases (z328 (byB F S b mi) (weightW S) (List.range (fullN S + 1)) 0).2 with h | ⟨s,h1,h2,h3⟩
 ·exact .inl h
 ·exact .inr ⟨s,by have:=List.mem_range.1 h1;omega,h2,h3⟩
theorem z1325 {F:Mat} {S:List SpotT} {b s:Nat} {mi mj:Int} (h:mi≤mj) (hb:byB F S b mi s=true):byB F S b mj s=true:=by
 rw [byB,List.any_eq_true] at hb ⊢
 obtain⟨i,h1,h2⟩:=hb
 exact⟨i,h1,decide_eq_true (Int.le_trans (of_decide_eq_true h2) h)⟩
theorem z1156 {F:Mat} {S:List SpotT} {b:Nat} {mi mj:Int} (h:mi≤mj):mostV F S b mi≤mostV F S b mj:=by
 rcases z486 F S b mi with h1 | ⟨s,h1,h2,h3⟩
 ·rw [h1];exact z221
 ·rw [h3];exact z1157 h1 (z1325 h h2)
theorem z1267 {S:List SpotT} (hl:S.length≤5) {s:Nat} (hs:s≤fullN S):s<32∧s &&& fullN S=s:=by
 have hf:=z194 hl
 refine⟨by omega,?_⟩
 rw [fullN,Nat.and_two_pow_sub_one_eq_mod]
 apply Nat.mod_eq_of_lt
 rw [fullN] at hs
 have:=Nat.two_pow_pos S.length
 omega
def allW (S:List SpotT):Int:=sumW S (List.range S.length)
theorem z519 {m:Nat} {F G:Mat} {S:List SpotT} (h:PlanB m F G S) {s:Nat} (hs:s≤fullN S):weightW S s≤allW S:=by
 have hl5:=h.nice.spots.len
 have hf:=z194 hl5
 obtain⟨s1,s2⟩:=z1267 hl5 hs
 obtain⟨p1,p2,p3,p4⟩:=z1120 hf s2
 have hfm:=z209 S.length hl5
 have hin:∀ i ∈ elems s,i<S.length:=fun i hi=>hfm i (p4.mem_iff.2 (by simp [hi]))
 have hin2:∀ i ∈ elems (fullN S - s),i<S.length:=fun i hi=>hfm i (p4.mem_iff.2 (by simp [hi]))
 have e:allW S=sumW S (elems s++elems (fullN S - s)):=by rw [allW,← z292 S.length hl5];exact z146 p4
 have ha:∀ l k:List Nat,sumW S (l++k)=sumW S l + sumW S k:=by
  intro l k
  induction l with
  | nil=>simp [sumW]
  | cons i l ih=>simp only [sumW,List.cons_append,List.foldr_cons] at ih ⊢;omega
 have h2:=z105 h (elems (fullN S - s)) hin2
 rw [z260 h.wt s1 hin,e,ha]
 omega
theorem z365 {m:Nat} {F G:Mat} {S:List SpotT} (h:PlanB m F G S) (b:Nat) (mi:Int):mostV F S b mi≤allW S:=by
 rcases z486 F S b mi with h1 | ⟨s,h1,h2,h3⟩
 ·rw [h1];exact (z105 h _ (fun i hi=>List.mem_range.1 hi)).1
 ·rw [h3];exact z519 h h1
theorem z739 {m:Nat} {F G:Mat} {S:List SpotT} (h:PlanB m F G S) {b:Nat} {mi:Int} (hm:mi<1073741824) {l:List Nat} (hn:l.Nodup) (hi:∀ i ∈ l,i<S.length):(costF G S b 0 0 l).2 > mi∨sumW S l≤mostV F S b mi:=by
 have hl5:=h.nice.spots.len
 have hnw:neverW=1073741824:=rfl
 have hlen:=z204 hn hi
 rcases z945 h hi (by omega) b with ⟨h1,h2,_,_⟩ | ⟨_,h2⟩
 ·rw [h2]
  by_cases he:endL F S b l≤mi
  ·right
   have h5:∀ i ∈ l,i<5:=fun i hi'=>by have:=hi i hi';omega
   have hperm:=z1049 hn h5
   have hlt:setOf l<2 ^ S.length:=z570 l hi
   have hle:setOf l≤fullN S:=by rw [fullN];omega
   have h32:=z1050 h5
   have hin:∀ j ∈ elems (setOf l),j<S.length:=fun j hj=>hi j ((z713 h5 j).1 hj)
   by_cases h0:setOf l=0
   ·rw [h0,z38,List.perm_nil] at hperm
    rw [hperm]
    exact z221
   ·have hb:byB F S b mi (setOf l)=true:=(z1362 h hm h32 hin h0).2 ⟨l,hperm,h1,he⟩
    rw [z146 hperm,← z260 h.wt h32 hin]
    exact z1157 hle hb
  ·left;dsimp only;omega
 ·left;rw [h2];dsimp only;omega
theorem z1248 {m:Nat} {F G:Mat} {S:List SpotT} (h:PlanB m F G S) {b:Nat} {mi:Int} (hm:mi<1073741824) {l:List Nat} (hp:l.Perm (List.range S.length)):(costF G S b 0 0 l).2 > mi∨mostV F S b mi=allW S:=by
 rcases z739 h (b:=b) hm (hp.nodup_iff.2 List.nodup_range) (fun i hi=>List.mem_range.1 (hp.mem_iff.1 hi)) with h1 | h1
 ·exact .inl h1
 ·right
  have h2:=z365 h b mi
  rw [z146 hp] at h1
  rw [allW] at h2 ⊢
  omega
theorem z938 {n:Net} {p:Party} {bases:List Int} {S:List SpotT} {b0:Int} {bt:List Int} (h:readyE n p bases S=0) (hb0:bases=b0::bt):readyE n p [b0] S=0:=by
 obtain⟨hn,hp,_⟩:=z100 h
 rw [readyE,if_neg (fun hh=>hh (z102.2 ⟨hn,hp⟩)),if_neg]
 intro hbad
 rw [readyE,if_neg (fun hh=>hh (z102.2 ⟨hn,hp⟩))] at h
 split at h
 ·cases h
 ·rename_i hok
  simp only [badTeams,Bool.or_eq_true,not_or] at hbad hok
  obtain⟨k1,k2,k3,k4⟩:=hok
  rcases hbad with g | g | g | g
  ·exact k1 g
  ·exact k2 g
  ·simp [withinB] at g
  ·rw [hb0] at k4
   simp only [List.any_cons,List.any_nil,Bool.or_false] at g
   exact k4 (by simp [g])
theorem z1361 {n:Net} {p:Party} {bases:List Int} {S:List SpotT} {b0:Int} {bt:List Int} (h:readyE n p bases S=0) (hl:S.length≤5) (h5:n.places≤5) (hb0:bases=b0::bt) :
  readyE n p [b0] S=0∧OrdP (allM n p) S b0.toNat∧((bestV (allM n p) S 5 b0.toNat (fullN S)).1<farW→sharedF (allR n p) S [b0.toNat] [natsI (orderV (allM n p) S 5 b0.toNat (fullN S))]=((bestV (allM n p) S 5 b0.toNat (fullN S)).1,true)):=by
 have hP:=z1139 h hl h5
 obtain⟨hn,hp,hlen,hsp,hbl,hbs⟩:=z100 h
 have hf:=z194 hl
 have hb:=hbs b0 (by rw [hb0];simp)
 have hr1:=z938 h hb0
 refine⟨hr1,z1235 hr1 hl,fun hc=>?_⟩
 obtain⟨o1,o2,o3,o4⟩:=z274 hP 5 b0.toNat (fullN S) (by omega) hf (z209 _ hl) (z40 (fullN S) hf) hc
 refine (z1048 hP _ _ _).2 ⟨[orderV (allM n p) S 5 b0.toNat (fullN S)],rfl,⟨rfl,?_,⟨o2,trivial⟩⟩,by simp [costS,o3]⟩
 have he:elems (fullN S)=List.range S.length:=z292 _ hl
 rw [← he]
 simpa using o1
def runW (S:List SpotT) (k:Nat):Int:=sumW S (List.range k)
theorem z712 (S:List SpotT) (l:List Nat) (i:Nat):sumW S (l++[i])=sumW S l + (spotAt S i).wt:=by
 induction l with
 | nil=>simp [sumW]
 | cons j l ih=>simp only [sumW,List.cons_append,List.foldr_cons] at ih ⊢;omega
theorem z1129 (S:List SpotT) (k:Nat):runW S (k + 1)=runW S k + (spotAt S k).wt:=by
 rw [runW,runW,List.range_succ,z712]
end Go.Ab
namespace Go.Ab
open Go.RowKit Go.Proofs
set_option maxHeartbeats 8000000
set_option maxRecDepth 20000
attribute [local irreducible] WalkL Walk
def oneT (b:Int) (s:SpotT):SpotT:={ s with pl:=b }
def oneS (b:Int) (S:List SpotT):List SpotT:=S.map (oneT b)
end Go.Ab
namespace Go.Ab
open Go.RowKit Go.Proofs
set_option maxHeartbeats 16000000
set_option maxRecDepth 20000
attribute [local irreducible] WalkL Walk
def partS (b:Int) (S:List SpotT) (i:Nat):List (List DV):=((S.take i).map (oneT b)).map SpotT.row++(S.drop i).map SpotT.row
end Go.Ab
namespace Go.Ab
open Go.RowKit Go.Proofs
set_option maxHeartbeats 16000000
set_option maxRecDepth 20000
attribute [local irreducible] WalkL Walk
theorem z1083 {n:Net} {p:Party} (h:farM n=false) (hg:n.Good):n.places≤5:=by
 simp only [farM,Bool.or_eq_false_iff,Bool.and_eq_false_iff,decide_eq_false_iff_not,Bool.not_eq_false'] at h
 have hb:badNet n=false:=by
  have:=z135.2 hg
  simpa using this
 rcases h.2.2 with h1 | h1
 ·rw [hb] at h1;cases h1
 ·omega
theorem z1183 {n:Net} {p:Party} {bases:List Int} {S:List SpotT} {mins:Int} (h:farSe ⟨p,bases,S,mins⟩=false):S.length≤5∨readyE n p bases S≠0:=by
 by_cases he:readyE n p bases S=0
 ·obtain⟨_,_,hlen,_⟩:=z100 he
  simp only [farSe,Bool.or_eq_false_iff,Bool.and_eq_false_iff,decide_eq_false_iff_not] at h
  left;omega
 ·exact .inr he
end Go.Ab
namespace Go.Ab
open Go.RowKit Go.Proofs
set_option maxHeartbeats 16000000
set_option maxRecDepth 20000
attribute [local irreducible] WalkL Walk
structure SoonerT where
 order:List Int
 later:Int
def SoonerT.row (y:SoonerT):List DV:=[.sl (intRows y.order),.i y.later]
def badBy (n:Net) (x:SearchT) (y:SoonerT):Bool:=!searchB n x || (decide ((y.order.length:Int) > 20) || (!withinB x.minutes 0 2880 || (!withinB y.later 0 2880 || decide (y.later<x.minutes))))
theorem zf8 (n:Net) (x:SearchT) (y:SoonerT) (hs:n.Small) (hb:x.bases.length<2 ^ 30) (hl:x.spots.length<2 ^ 30) (hy:y.order.length<2 ^ 30) :
  Fn Tryd.prog 8 [.agg n.cells,.agg x.row,.agg y.row] (.bool true):=by
 have h20:=z1454 n x hs hb hl
 have h14:=z1456
 have hrb:=z13 x.bases
 have hsl:(x.spots.map SpotT.row).length=x.spots.length:=by simp
 have hyo:=z13 y.order
 have h30a:=z1429 x.minutes
 have h30b:=z1429 y.later
 obtain⟨BAD,hBAD⟩:∃ B,B=badBy n x y:=⟨_,rfl⟩
 obtain⟨p,bases,S,mins⟩:=x
 obtain⟨yo,yl⟩:=y
 dsimp only at hb hl hrb hsl hy hyo h30a h30b
 have hBAD2:=hBAD
 rw [badBy] at hBAD2
 dsimp only at hBAD2
 rw [Net.cells] at *
 rw [SearchT.row] at *
 rw [SoonerT.row]
 refine z11 261 Tryd.call8 Tryd.func8 rfl (by decide) fun J=>?_
 simp only [go_sem,St.start,Tryd.ntmps8,Tryd.results8,Net.cells,SearchT.row]
 repeat (first|refine z19 ?_|refine z31 ?_)
 refine z3 fun K hK=>?_
 simp only [go_sem]
 apply hK
 clear hK K
 repeat (first|refine z19 ?_|refine z31 ?_)
 refine z23 [(54,.d (.bool (BAD)))] [] ?_ ?_
 ·refine z3 fun K hK=>?_
  simp only [go_sem,hyo]
  refine⟨_,.lent (hf:=h20) (hd:=rfl) (hr:=rfl),?_⟩
  simp only [go_sem,hyo]
  by_cases ho0:(!searchB n ⟨p,bases,S,mins⟩)=true
  ·simp only [go_sem,hyo,ho0]
   apply hK
   clear hK K
   refine z9 ?_
   refine z4 ?_
   refine⟨rfl,?_⟩
   rw [show (BAD)=(true) from by simp [hBAD2,ho0]]
   simp only [go_sem]
   refine weA ?_ ?_ <;> simp
  ·simp only [go_sem,hyo,ho0]
   by_cases ho1:(decide ((yo.length:Int) > 20))=true
   ·simp only [go_sem,hyo,ho0,ho1]
    apply hK
    clear hK K
    refine z9 ?_
    refine z4 ?_
    refine⟨rfl,?_⟩
    rw [show (BAD)=(true) from by simp [hBAD2,ho0,ho1]]
    simp only [go_sem]
    refine weA ?_ ?_ <;> simp
   ·simp only [go_sem,hyo,ho0,ho1]
    refine⟨_,.lent (hf:=h30a) (hd:=rfl) (hr:=rfl),?_⟩
    simp only [go_sem,hyo,ho0,ho1]
    by_cases ho2:(!withinB mins 0 2880)=true
    ·simp only [go_sem,hyo,ho0,ho1,ho2]
     apply hK
     clear hK K
     refine z9 ?_
     refine z4 ?_
     refine⟨rfl,?_⟩
     rw [show (BAD)=(true) from by simp [hBAD2,ho0,ho1,ho2]]
     simp only [go_sem]
     refine weA ?_ ?_ <;> simp
    ·simp only [go_sem,hyo,ho0,ho1,ho2]
     refine⟨_,.lent (hf:=h30b) (hd:=rfl) (hr:=rfl),?_⟩
     simp only [go_sem,hyo,ho0,ho1,ho2]
     by_cases ho3:(!withinB yl 0 2880)=true
     ·simp only [go_sem,hyo,ho0,ho1,ho2,ho3]
      apply hK
      clear hK K
      refine z9 ?_
      refine z4 ?_
      refine⟨rfl,?_⟩
      rw [show (BAD)=(true) from by simp [hBAD2,ho0,ho1,ho2,ho3]]
      simp only [go_sem]
      refine weA ?_ ?_ <;> simp
     ·simp only [go_sem,hyo,ho0,ho1,ho2,ho3]
      apply hK
      clear hK K
      refine z9 ?_
      refine z4 ?_
      refine⟨rfl,?_⟩
      rw [show (BAD)=(decide (yl<mins)) from by simp [hBAD2,ho0,ho1,ho2,ho3]]
      simp only [go_sem]
      refine weA ?_ ?_ <;> simp
 simp only [go_sem]
 cases hBv:BAD
 case true =>
  refine z5 (b:=true) (by rw [← hBv];rfl) (fun _=>?_) (fun hc=>by cases hc)
  repeat (first|refine nx ?_|(refine z3 fun K hK=>?_;simp only [go_sem];(repeat (first|(refine⟨_,.lent (hf:=h14) (hd:=rfl) (hr:=rfl),?_⟩;simp only [go_sem])|(refine⟨_,.given (hf:=h14) (hd:=rfl) (ha:=rfl),?_⟩;simp only [go_sem])));apply hK;clear hK K))
  simp only [go_sem]
 case false =>
  refine z5 (b:=false) (by rw [← hBv];rfl) (fun hc=>by cases hc) (fun _=>?_)
  rw [hBv] at hBAD2
  have hB3:=hBAD2.symm
  simp only [Bool.or_eq_false_iff,Bool.not_eq_false',decide_eq_false_iff_not] at hB3
  obtain⟨hv,c1,wm,wl,c5⟩:=hB3
  have hm1:=z21.1 wm
  have hm2:=z21.1 wl
  have hv2:=hv
  simp only [searchB,Bool.and_eq_true,Bool.not_eq_true',beq_iff_eq] at hv2
  obtain⟨hfm,hfs,hr⟩:=hv2
  obtain⟨hg,hp,hlen,hsp,hbl,hbs⟩:=z100 hr
  have hS5:S.length≤5:=(z1183 (n:=n) hfs).resolve_right fun h=>h hr
  have hp5:=z1083 (p:=p) hfm hg
  obtain⟨b0,bt,hb0⟩:∃ b0 bt,bases=b0::bt:=by
   cases hbb:bases with
   | nil=>rw [hbb] at hbl;simp at hbl
   | cons b t=>exact⟨b,t,rfl⟩
  obtain⟨w1,w2,w3⟩:=z1361 hr hS5 hp5 hb0
  have hP:=z1139 hr hS5 hp5
  have hpl:=hg.places
  have hbb0:=hbs b0 (by rw [hb0];simp)
  have hSok:SpotsOk n.places.toNat S:=⟨hS5,fun s hs=>by have:=(hsp s hs).1;omega⟩
  have h31a:=z1428 n p (allM n p) b0 S mins hs (.inl hS5) hl (fun _=>rfl)
  have h31b:=z1428 n p (allM n p) b0 S yl hs (.inl hS5) hl (fun _=>rfl)
  have hma:mostC n p (allM n p) b0 S mins=(mostV (allM n p) S b0.toNat mins,0):=by unfold mostC;rw [if_neg (fun h=>h w1),if_pos wm]
  have hmb:mostC n p (allM n p) b0 S yl=(mostV (allM n p) S b0.toNat yl,0):=by unfold mostC;rw [if_neg (fun h=>h w1),if_pos wl]
  rw [hma] at h31a
  rw [hmb] at h31b
  dsimp only at h31a h31b
  have h21:=z1430 n p (allM n p) b0 S hs (.inl hS5) hl (fun _=>rfl) (fun _=>w2)
  have hres:∃ OO VV ee,planC n p (allM n p) b0 S=(OO,VV,ee)∧((ee=0∧∃ l:List Nat,OO=natsI l∧l.Perm (List.range S.length)∧∃ c,Fn Tryd.prog 32 [.agg n.cells,.agg (SearchT.mk p [b0] S mins).row,.sl (slRows [OO])] (.tup [.i c,.bool true]))∨ee=3):=by
   rw [z1295 w1 hS5 hp5]
   by_cases hVf:(bestV (allM n p) S 5 b0.toNat (fullN S)).1<farW
   ·rw [if_pos hVf]
    have v3:=w3 hVf
    have hf:=z194 hS5
    have ho:=(z274 hP 5 b0.toNat (fullN S) (by omega) hf (z209 _ hS5) (z40 _ hf) hVf).1
    have hef:elems (fullN S)=List.range S.length:=z292 _ hS5
    rw [hef] at ho
    have h32o:=z1450 n p [b0] S mins [natsI (orderV (allM n p) S 5 b0.toNat (fullN S))] hg hSok (fun b h=>by simp at h;subst h;exact hbb0) (by simp) (by simp) (fun o h=>by simp at h;subst h;rw [z130,ho.length_eq,List.length_range];omega)
    have em:[b0].map Int.toNat=[b0.toNat]:=rfl
    rw [em,v3] at h32o
    exact⟨_,_,_,rfl,.inl ⟨rfl,_,rfl,ho,_,h32o⟩⟩
   ·rw [if_neg hVf]
    exact⟨_,_,_,rfl,.inr rfl⟩
  obtain⟨OO,VV,ee,hpc,hee⟩:=hres
  rw [planD,hpc] at h21
  dsimp only at h21
  have h34:=(z1426 n p hg).deep
  have hmono:mostV (allM n p) S b0.toNat mins≤mostV (allM n p) S b0.toNat yl:=z1156 (by omega)
  have hnn:0≤mostV (allM n p) S b0.toNat mins:=z221
  have hla:=z365 hP b0.toNat mins
  have hplan:=fun l h=>z1248 hP (b:=b0.toNat) (mi:=mins) (by omega) (l:=l) h
  have hany:=fun l h1 h2=>z739 hP (b:=b0.toNat) (mi:=mins) (by omega) (l:=l) h1 h2
  obtain⟨A,hA⟩:∃ A,A=mostV (allM n p) S b0.toNat mins:=⟨_,rfl⟩
  obtain⟨A2,hA2⟩:∃ A2,A2=mostV (allM n p) S b0.toNat yl:=⟨_,rfl⟩
  rw [← hA] at h31a hmono hnn hla hplan hany
  rw [← hA2] at h31b hmono
  have g0:(intRows bases)[0]?=some [.i b0]:=by rw [hb0];rfl
  have hb1:0<bases.length:=by omega
  have n1:(1:Int)≤(bases.length:Int):=by omega
  have hhb:headIs 1 (intRows bases)=true:=by rw [hb0];rfl
  have htk:List.take 1 (intRows bases)=[[.i b0]]:=by rw [hb0];rfl
  have hm1':(S.length:Int)≤1099511627776:=by omega
  have hm2':¬ ((S.length:Int)<0):=by omega
  have hm0':0≤(S.length:Int):=by omega
  have d1:decide (A > A2)=false:=decide_eq_false (by omega)
  have d2:decide (A<0)=false:=decide_eq_false (by omega)
  have hwt:∀ i,i<S.length→0≤(spotAt S i).wt∧(spotAt S i).wt≤100:=fun i hi=>(hsp _ (List.mem_of_getElem? (z53 hi))).2.1
  have hrw:∀ k,k≤S.length→0≤runW S k∧runW S k≤500:=fun k hk=>by
   have:=z105 hP (List.range k) (fun i hi=>by have:=List.mem_range.1 hi;omega)
   rw [runW]
   rw [List.length_range] at this
   omega
  obtain⟨B,hB⟩:∃ B:Nat,b0=B:=⟨b0.toNat,by omega⟩
  have hBm:B<n.places.toNat:=by omega
  have hB2:b0.toNat=B:=by omega
  have h33:=fun l h1 h2=>z1427 n.places.toNat (allR n p) S hSok B hBm l h1 h2
  rw [hB2] at hplan hany w3
  rw [← hB] at h33
  rw [Party.cells] at h31a h31b h21 h34
  rw [Net.cells] at h31a h31b h21 h34
  repeat (first|refine nx ?_|(refine z3 fun K hK=>?_;simp only [go_sem];apply hK;clear hK K))
  refine z7 (by kernel_rfl) (by kernel_rfl) fun K hK=>?_
  simp only [go_sem,g0,hb1,hrb]
  refine⟨_,.fn (hf:=h31a) (hd:=rfl) (hr:=.inl rfl),?_⟩
  simp only [go_sem]
  refine⟨by kernel_rfl,hK _ ?_⟩
  clear hK K
  repeat (first|refine nx ?_|(refine z3 fun K hK=>?_;simp only [go_sem];apply hK;clear hK K))
  refine z7 (by kernel_rfl) (by kernel_rfl) fun K hK=>?_
  simp only [go_sem,g0,hb1,hrb]
  refine⟨_,.fn (hf:=h31b) (hd:=rfl) (hr:=.inl rfl),?_⟩
  simp only [go_sem]
  refine⟨by kernel_rfl,hK _ ?_⟩
  clear hK K
  repeat (first|refine nx ?_|(refine z3 fun K hK=>?_;simp only [go_sem,d1,d2];apply hK;clear hK K))
  refine z6 (by rfl) ?_
  repeat (first|refine nx ?_|(refine z3 fun K hK=>?_;simp only [go_sem];apply hK;clear hK K))
  refine z14 (fun (k:Nat)=>[(12,.d (.i (k:Int))),(11,.d (.i (runW S k)))]) (fun _=>[]) (fun k=>k≤S.length) (fun k=>S.length - k) 0 ?_ (Nat.zero_le _) ?_
  ·have e0:runW S 0=0:=rfl
   simp only [go_sem,e0]
   refine weA ?_ ?_ <;> simp
  ·intro k hk
   simp only [go_sem]
   repeat (first|refine nx ?_|(refine z3 fun K hK=>?_;simp only [go_sem,hsl,List.length_map];apply hK;clear hK K))
   refine z5 rfl (fun hb=>?_) (fun hb=>?_)
   ·have hlt:k<S.length:=by simpa using hb
    have hw:IntKind.i64.wrap ((k:Int) + 1)=((k + 1:Nat):Int):=by rw [z8 (by omega)];simp
    have g1:(S.map SpotT.row)[k]?=some [.i (spotAt S k).pl,.i (spotAt S k).wt,.i (spotAt S k).se]:=by rw [List.getElem?_map,z53 hlt];rfl
    have nk:¬ ((k:Int)<0):=by omega
    have h1:=hrw k hk
    have h2:=hwt k hlt
    have hw2:IntKind.i64.wrap (runW S k + (spotAt S k).wt)=runW S (k + 1):=by rw [z1129];exact z8 (by omega)
    repeat (first|refine nx ?_|(refine z3 fun K hK=>?_;simp only [go_sem,g1,nk,hlt,hsl,List.length_map,hw,hw2];apply hK;clear hK K))
    refine⟨rfl,k + 1,?_,hlt,by omega⟩
    try simp only [go_sem]
    refine weA ?_ ?_ <;> simp
   ·have he:k=S.length:=by (have:¬ k<S.length:=by simpa using hb);omega
    subst he
    have hall:runW S S.length=allW S:=rfl
    rw [hall]
    repeat (first|refine nx ?_|(refine z3 fun K hK=>?_;simp only [go_sem];apply hK;clear hK K))
    refine z7 (by kernel_rfl) (by kernel_rfl) fun K hK=>?_
    simp only [go_sem,g0,hb1,hrb]
    refine⟨_,.fn (hf:=h21) (hd:=rfl) (hr:=.inr rfl),?_⟩
    simp only [go_sem]
    refine⟨by kernel_rfl,hK _ ?_⟩
    clear hK K
    repeat (first|refine nx ?_|(refine z3 fun K hK=>?_;simp only [go_sem];apply hK;clear hK K))
    refine z23 [] [] ?_ ?_
    ·rcases hee with ⟨rfl,l,rfl,hlp,c,h32o⟩ | rfl
     ·have h33o:=h33 l (fun i hi=>List.mem_range.1 (hlp.mem_iff.1 hi)) (by rw [hlp.length_eq,List.length_range];omega)
      have hq:=hplan l hlp
      obtain⟨⟨ec,en⟩,hE⟩:∃ q,q=costF (allR n p) S B 0 0 l:=⟨_,rfl⟩
      rw [← hE] at h33o hq
      dsimp only at h33o hq
      rw [Net.cells,SearchT.row] at h32o
      refine z10 (by rfl) ?_
      repeat (first|refine nx ?_|(refine z3 fun K hK=>?_;simp only [go_sem,n1,hhb,htk,hrb,List.drop_zero];(repeat (first|(refine⟨_,.lent (hf:=h32o) (hd:=rfl) (hr:=rfl),?_⟩;simp only [go_sem,n1,hhb,htk,hrb,List.drop_zero])|(refine⟨_,.given (hf:=h32o) (hd:=rfl) (ha:=rfl),?_⟩;simp only [go_sem,n1,hhb,htk,hrb,List.drop_zero])));apply hK;clear hK K))
      refine z6 (by rfl) ?_
      repeat (first|refine z19 ?_|refine z31 ?_|refine z9 ?_|refine z4 ?_)
      refine z7 (by kernel_rfl) (by kernel_rfl) fun K hK=>?_
      simp only [go_sem,g0,hb1,hrb]
      refine⟨_,.fn (hf:=h34) (hd:=rfl) (hr:=.inr rfl),?_⟩
      simp only [go_sem,g0,hb1,hrb]
      refine⟨_,.fn (hf:=h33o) (hd:=rfl) (hr:=.inl rfl),?_⟩
      simp only [go_sem]
      refine⟨by kernel_rfl,hK _ ?_⟩
      clear hK K
      by_cases hen:en≤mins
      ·have d3:decide (en≤mins)=true:=decide_eq_true hen
       have d4:(A != allW S)=false:=by
        have:A=allW S:=hq.resolve_left (by omega)
        simp [this]
       repeat (first|refine nx ?_|(refine z3 fun K hK=>?_;simp only [go_sem,d3,d4];apply hK;clear hK K))
       refine z6 (by rfl) ?_
       repeat (first|refine nx ?_|(refine z3 fun K hK=>?_;simp only [go_sem];apply hK;clear hK K))
       refine⟨rfl,?_⟩
       try simp only [go_sem]
       refine weA ?_ ?_ <;> simp
      ·have d3:decide (en≤mins)=false:=decide_eq_false hen
       repeat (first|refine nx ?_|(refine z3 fun K hK=>?_;simp only [go_sem,d3];apply hK;clear hK K))
       refine z6 (by rfl) ?_
       repeat (first|refine nx ?_|(refine z3 fun K hK=>?_;simp only [go_sem];apply hK;clear hK K))
       refine⟨rfl,?_⟩
       try simp only [go_sem]
       refine weA ?_ ?_ <;> simp
     ·refine z6 (by rfl) ?_
      repeat (first|refine nx ?_|(refine z3 fun K hK=>?_;simp only [go_sem];apply hK;clear hK K))
      refine⟨rfl,?_⟩
      try simp only [go_sem]
      refine weA ?_ ?_ <;> simp
    ·simp only [go_sem]
     repeat (first|refine nx ?_|(refine z3 fun K hK=>?_;simp only [go_sem,hsl,List.length_map,true_and,Int.toNat_natCast,hm1',hm2',hm0',z256];apply hK;clear hK K))
     refine z14 (fun (a:Nat × List Nat)=>[(23,.d (.i (a.1:Int))),(21,.d (.i (sumW S a.2))),(22,.own 174)]) (fun a=>[(174,some (.arr 4 1 (boolR (seenB S.length a.2))))])
      (fun a=>a.1≤yo.length∧a.2.Nodup∧(∀ i ∈ a.2,i<S.length)∧yo.take a.1=natsI a.2) (fun a=>yo.length - a.1) (0,[]) ?_ ⟨Nat.zero_le _,by simp,by simp,rfl⟩ ?_
     ·have e0:sumW S []=0:=rfl
      simp only [go_sem,e0,z716]
      refine weA ?_ ?_ <;> simp
     ·rintro⟨k,l⟩ ⟨hk,hln,hli,htk2⟩
      dsimp only at hk hln hli htk2
      have hbl2:(boolR (seenB S.length l)).length=S.length:=by rw [z391,z125]
      simp only [go_sem]
      repeat (first|refine nx ?_|(refine z3 fun K hK=>?_;simp only [go_sem,hyo];apply hK;clear hK K))
      refine z5 rfl (fun hb=>?_) (fun hb=>?_)
      ·have hlt:k<yo.length:=by simpa using hb
       have hw:IntKind.i64.wrap ((k:Int) + 1)=((k + 1:Nat):Int):=by rw [z8 (by omega)];simp
       obtain⟨s,hs2⟩:∃ s,yo[k]?=some s:=⟨_,List.getElem?_eq_getElem hlt⟩
       have g3:=z94 hs2
       have nk:¬ ((k:Int)<0):=by omega
       by_cases c6:s<0
       ·have e1:decide (s<0)=true:=decide_eq_true c6
        repeat (first|refine nx ?_|(refine z3 fun K hK=>?_;simp only [go_sem,g3,nk,hlt,hyo,e1,hbl2];apply hK;clear hK K))
        refine z10 (by rfl) ?_
        repeat (first|refine nx ?_|(refine z3 fun K hK=>?_;simp only [go_sem];(repeat (first|(refine⟨_,.lent (hf:=h14) (hd:=rfl) (hr:=rfl),?_⟩;simp only [go_sem])|(refine⟨_,.given (hf:=h14) (hd:=rfl) (ha:=rfl),?_⟩;simp only [go_sem])));apply hK;clear hK K))
        simp only [go_sem]
       ·have e1:decide (s<0)=false:=decide_eq_false c6
        obtain⟨j,rfl⟩:∃ j:Nat,s=j:=⟨s.toNat,by omega⟩
        by_cases c7:(j:Int) ≥ (S.length:Int)
        ·have e2:decide ((j:Int) ≥ (S.length:Int))=true:=decide_eq_true c7
         repeat (first|refine nx ?_|(refine z3 fun K hK=>?_;simp only [go_sem,g3,nk,hlt,hyo,e1,e2,hbl2];apply hK;clear hK K))
         refine z10 (by rfl) ?_
         repeat (first|refine nx ?_|(refine z3 fun K hK=>?_;simp only [go_sem];(repeat (first|(refine⟨_,.lent (hf:=h14) (hd:=rfl) (hr:=rfl),?_⟩;simp only [go_sem])|(refine⟨_,.given (hf:=h14) (hd:=rfl) (ha:=rfl),?_⟩;simp only [go_sem])));apply hK;clear hK K))
         simp only [go_sem]
        ·have e2:decide ((j:Int) ≥ (S.length:Int))=false:=decide_eq_false c7
         have hjl:j<S.length:=by omega
         have nj:¬ ((j:Int)<0):=by omega
         have g4:=z983 (z147 l hjl)
         by_cases c8:j ∈ l
         ·have e3:l.contains j=true:=by simpa using c8
          rw [e3] at g4
          repeat (first|refine nx ?_|(refine z3 fun K hK=>?_;simp only [go_sem,g3,g4,nk,nj,hlt,hjl,hyo,e1,e2,hbl2];apply hK;clear hK K))
          refine z10 (by rfl) ?_
          repeat (first|refine nx ?_|(refine z3 fun K hK=>?_;simp only [go_sem];(repeat (first|(refine⟨_,.lent (hf:=h14) (hd:=rfl) (hr:=rfl),?_⟩;simp only [go_sem])|(refine⟨_,.given (hf:=h14) (hd:=rfl) (ha:=rfl),?_⟩;simp only [go_sem])));apply hK;clear hK K))
          simp only [go_sem]
         ·have e3:l.contains j=false:=by simpa using c8
          rw [e3] at g4
          have hset:(boolR (seenB S.length l)).set j [.bool true]=boolR (seenB S.length (l++[j])):=by rw [z788,z354 _ hjl]
          have hn2:(l++[j]).Nodup:=by
           rw [List.nodup_append]
           exact⟨hln,by simp,fun a ha b hb hab=>by simp at hb;subst hb;exact c8 (hab ▸ ha)⟩
          have hi2:∀ i ∈ l++[j],i<S.length:=fun i hi=>by
           rcases List.mem_append.1 hi with hi | hi
           ·exact hli i hi
           ·simp at hi;subst hi;exact hjl
          have h1:=z105 hP l hli
          have h2:=hwt j hjl
          have h5:=z204 hln hli
          have hw2:IntKind.i64.wrap (sumW S l + (spotAt S j).wt)=sumW S (l++[j]):=by rw [z712];exact z8 (by omega)
          have g5:(S.map SpotT.row)[j]?=some [.i (spotAt S j).pl,.i (spotAt S j).wt,.i (spotAt S j).se]:=by rw [List.getElem?_map,z53 hjl];rfl
          repeat (first|refine nx ?_|(refine z3 fun K hK=>?_;simp only [go_sem,g3,g4,nk,nj,hlt,hjl,hyo,e1,e2,hbl2];apply hK;clear hK K))
          refine z6 (by rfl) ?_
          repeat (first|refine nx ?_|(refine z3 fun K hK=>?_;simp only [go_sem,g3,g4,nk,nj,hlt,hjl,hyo,hbl2,hset];apply hK;clear hK K))
          refine z7 (by kernel_rfl) (by kernel_rfl) fun K hK=>?_
          simp only [go_sem,g3,g5,nk,nj,hlt,hjl,hyo,hsl,List.length_map,hw2]
          refine⟨by kernel_rfl,hK _ ?_⟩
          clear hK K
          repeat (first|refine nx ?_|(refine z3 fun K hK=>?_;simp only [go_sem,hw];apply hK;clear hK K))
          refine⟨rfl,(k + 1,l++[j]),?_,⟨hlt,hn2,hi2,by rw [List.take_add_one,hs2,htk2];simp [natsI]⟩,by dsimp only;omega⟩
          try simp only [go_sem]
          refine weA ?_ ?_ <;> simp
      ·have he:k=yo.length:=by (have:¬ k<yo.length:=by simpa using hb);omega
       subst he
       rw [List.take_length] at htk2
       have h33y:=h33 l hli (by have:=congrArg List.length htk2;rw [z130] at this;omega)
       rw [← htk2] at h33y
       have hq:=hany l hln hli
       obtain⟨⟨ec,en⟩,hE⟩:∃ q,q=costF (allR n p) S B 0 0 l:=⟨_,rfl⟩
       rw [← hE] at h33y hq
       dsimp only at h33y hq
       have d6:decide (A≤allW S)=true:=decide_eq_true hla
       repeat (first|refine z19 ?_|refine z31 ?_|refine z9 ?_|refine z79 ?_|refine z58 ?_|refine z57 ?_|refine z4 ?_)
       refine z7 (by kernel_rfl) (by kernel_rfl) fun K hK=>?_
       simp only [go_sem,g0,hb1,hrb]
       refine⟨_,.fn (hf:=h34) (hd:=rfl) (hr:=.inr rfl),?_⟩
       simp only [go_sem,g0,hb1,hrb]
       refine⟨_,.fn (hf:=h33y) (hd:=rfl) (hr:=.inl rfl),?_⟩
       simp only [go_sem]
       refine⟨by kernel_rfl,hK _ ?_⟩
       clear hK K
       by_cases hen:en > mins
       ·have d5:decide (en > mins)=true:=decide_eq_true hen
        repeat (first|refine nx ?_|(refine z3 fun K hK=>?_;simp only [go_sem,d5,d6];(repeat (first|(refine⟨_,.lent (hf:=h14) (hd:=rfl) (hr:=rfl),?_⟩;simp only [go_sem,d5,d6])|(refine⟨_,.given (hf:=h14) (hd:=rfl) (ha:=rfl),?_⟩;simp only [go_sem,d5,d6])));apply hK;clear hK K))
        simp only [go_sem]
       ·have d5:decide (en > mins)=false:=decide_eq_false hen
        have d7:decide (A ≥ sumW S l)=true:=decide_eq_true (hq.resolve_left hen)
        repeat (first|refine nx ?_|(refine z3 fun K hK=>?_;simp only [go_sem,d5,d6,d7];(repeat (first|(refine⟨_,.lent (hf:=h14) (hd:=rfl) (hr:=rfl),?_⟩;simp only [go_sem,d5,d6,d7])|(refine⟨_,.given (hf:=h14) (hd:=rfl) (ha:=rfl),?_⟩;simp only [go_sem,d5,d6,d7])));apply hK;clear hK K))
        simp only [go_sem]
end Go.Ab
namespace Go.Ab
open Go.RowKit Go.Proofs Go.ChangeShapes Go.WideShapes Go.Proofs.YtfkbbaagifpjpaaDoor
set_option linter.unusedVariables false
set_option maxRecDepth 100000
def spotS:List Sh:=[iS,iS,iS]
def searchS:List Sh:=[iS,iS,iS,iS,.sl [iS],.sl spotS,iS]
theorem z1289 {N:Nat} {r:List DV} (h:Sh.fitsL N spotS r):∃ x:SpotT,r=x.row∧True:=by
 simp only [spotS,iS,Sh.fitsL,Sh.fits] at h
 obtain⟨_,_,rfl,⟨a,rfl,_⟩,_,_,rfl,⟨b,rfl,_⟩,_,_,rfl,⟨c,rfl,_⟩,rfl⟩:=h
 exact⟨⟨a,b,c⟩,rfl,trivial⟩
theorem z1126 {N:Nat} (hN:N<2 ^ 30) {r:List DV} (h:Sh.fitsL N searchS r):∃ x:SearchT,r=x.row∧x.bases.length<2 ^ 30∧x.spots.length<2 ^ 30:=by
 simp only [searchS] at h
 simp only [iS,Sh.fitsL,Sh.fits] at h
 obtain⟨_,_,rfl,⟨a,rfl,_⟩,_,_,rfl,⟨b,rfl,_⟩,_,_,rfl,⟨c,rfl,_⟩,_,_,rfl,⟨d,rfl,_⟩,_,_,rfl,⟨rows,rfl,hl,hr⟩,_,_,rfl,⟨rows2,rfl,hl2,hr2⟩,_,_,rfl,⟨e,rfl,_⟩,rfl⟩:=h
 obtain⟨l,rfl,_⟩:=z269 (row:=fun i:Int=>[DV.i i]) (fun r h=>z1284 (N:=N) (by simp only [iS,Sh.fitsL,Sh.fits];exact hr r h))
 obtain⟨S,rfl,_⟩:=z269 (fun r h=>z1289 (hr2 r h))
 have e1:l.length≤N:=by simpa using hl
 have e2:S.length≤N:=by simpa using hl2
 exact⟨⟨⟨a,b,⟨c,d⟩⟩,l,S,e⟩,rfl,by show l.length<2 ^ 30;omega,by show S.length<2 ^ 30;omega⟩
theorem z1218:shapes Tryd.prog 20 56=some searchS:=by kernel_rfl
theorem z1229:Rd 56 (fun x=>∃ y:SearchT,x=.agg y.row∧y.bases.length<2 ^ 30∧y.spots.length<2 ^ 30) :=
 ⟨by kernel_rfl,of_decide_eq_true (by kernel_rfl),fun H enc w base v d ps hok h hd=>by
  obtain⟨e0,hf0,r0⟩:=z596 z1218 (by decide) h hd
  obtain⟨x,rfl,hx⟩:=z1126 (by decide) hf0
  exact⟨_,⟨x,rfl,hx⟩,r0⟩⟩
abbrev aS:TypeId × (DV→Prop):=(56,fun x=>∃ y:SearchT,x=.agg y.row∧y.bases.length<2 ^ 30∧y.spots.length<2 ^ 30)
end Go.Ab
namespace Go.Ab
open Go.RowKit Go.Proofs Go.ChangeShapes Go.WideShapes Go.Proofs.YtfkbbaagifpjpaaDoor
set_option linter.unusedVariables false
set_option maxRecDepth 100000
def soonS:List Sh:=[.sl [iS],iS]
theorem z1291 {N:Nat} (hN:N<2 ^ 30) {r:List DV} (h:Sh.fitsL N soonS r):∃ y:SoonerT,r=y.row∧y.order.length<2 ^ 30:=by
 simp only [soonS] at h
 simp only [iS,Sh.fitsL,Sh.fits] at h
 obtain⟨_,_,rfl,⟨rows,rfl,hl,hr⟩,_,_,rfl,⟨e,rfl,_⟩,rfl⟩:=h
 obtain⟨l,rfl,_⟩:=z269 (row:=fun i:Int=>[DV.i i]) (fun r h=>z1284 (N:=N) (by simp only [iS,Sh.fitsL,Sh.fits];exact hr r h))
 have e1:l.length≤N:=by simpa using hl
 exact⟨⟨l,e⟩,rfl,by show l.length<2 ^ 30;omega⟩
theorem z1343:shapes Tryd.prog 20 79=some soonS:=by kernel_rfl
theorem z1228:Rd 79 (fun x=>∃ y:SoonerT,x=.agg y.row∧y.order.length<2 ^ 30) :=
 ⟨by kernel_rfl,of_decide_eq_true (by kernel_rfl),fun H enc w base v d ps hok h hd=>by
  obtain⟨e0,hf0,r0⟩:=z596 z1343 (by decide) h hd
  obtain⟨x,rfl,hx⟩:=z1291 (by decide) hf0
  exact⟨_,⟨x,rfl,hx⟩,r0⟩⟩
abbrev aB:TypeId × (DV→Prop):=(79,fun x=>∃ y:SoonerT,x=.agg y.row∧y.order.length<2 ^ 30)
end Go.Ab
