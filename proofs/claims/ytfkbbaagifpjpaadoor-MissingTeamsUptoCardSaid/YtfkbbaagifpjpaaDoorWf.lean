/- A walk engine over abstract states, and the contracts of the functions that the statement reaches: part 6. -/
import Derived.Test.YtfkbbaagifpjpaaDoorWe
set_option linter.unusedVariables false
set_option linter.unusedSimpArgs false
set_option linter.unnecessarySimpa false
namespace Go.Ab
open Go.RowKit Go.Proofs
set_option maxHeartbeats 16000000
set_option maxRecDepth 20000
attribute [local irreducible] WalkL Walk
def ordersM (F:Mat) (S:List SpotT):List Nat→List Nat→MemB→List (List Int)
 | b::bs,x::xs,M=>(orderM F S 5 b x M).1::ordersM F S bs xs (orderM F S 5 b x M).2
 | _,_,_=>[]
def OrdsOk (F:Mat) (S:List SpotT):List Nat→List Nat→MemB→Prop
 | b::bs,x::xs,M=>(x<32∧∀ i ∈ elems x,i<S.length)∧OrdOk F S 5 b x M∧OrdsOk F S bs xs (orderM F S 5 b x M).2
 | [],[],_=>True
 | _,_,_=>False
def shareT (F:Mat) (S:List SpotT) (bases:List Int):(Int × List Nat) × MemB:=shareM F S (bases.map Int.toNat) (fullN S) ([],0)
def teamsC (n:Net) (p:Party) (F:Mat) (bases:List Int) (S:List SpotT):List (List Int) × Int × Int :=
 if readyE n p bases S≠0 then ([],0,readyE n p bases S) else if (shareT F S bases).1.1 ≥ farW then ([],0,3) else (ordersM F S (bases.map Int.toNat) (shareT F S bases).1.2 (shareT F S bases).2,(shareT F S bases).1.1,0)
theorem z1437 (n:Net) (p:Party) (F:Mat) (bases:List Int) (S:List SpotT) (hs:n.Small) (hb:bases.length<2 ^ 30) (hl2:S.length<2 ^ 30) (hl:S.length≤5∨readyE n p bases S≠0) (hF:readyE n p bases S=0→matM n.places.toNat (allM n p)=matM n.places.toNat F)
  (ho:readyE n p bases S=0→(shareT F S bases).1.1<farW→OrdsOk F S (bases.map Int.toNat) (shareT F S bases).1.2 (shareT F S bases).2) :
  Fn Tryd.prog 36 [.agg n.cells,.agg p.cells,.sl (intRows bases),.sl (S.map SpotT.row)] (.tup [.sl (slRows (teamsC n p F bases S).1),.i (teamsC n p F bases S).2.1,.i (teamsC n p F bases S).2.2]):=by
 have h53:=z1412 n p bases S hs hb hl2
 rw [teamsC]
 by_cases he:readyE n p bases S=0
 ·obtain⟨hg,hp,hlen,hsp,hbl,hbase⟩:=z116 he
  have hpl:=hg.places
  have hl5:S.length≤5:=hl.resolve_right fun h=>h he
  have hS:SpotsOk n.places.toNat S:=⟨hl5,fun s hs=>by have:=(hsp s hs).1;omega⟩
  have hf32:=z584 hl5
  have hfi:∀ i ∈ elems (fullN S),i<S.length:=z317 _ hl5
  have ho':=ho he
  have hnb:natsI (bases.map Int.toNat)=bases:=z574 fun b h=>(hbase b h).1
  rw [shareT] at ho' ⊢
  obtain⟨bs,hbs⟩:∃ bs,bs=bases.map Int.toNat:=⟨_,rfl⟩
  have hbsl:bs.length=bases.length:=by rw [hbs,List.length_map]
  have hbm:∀ b ∈ bs,b<n.places.toNat:=by
   intro b h
   rw [hbs] at h
   obtain⟨c,hc,rfl⟩:=List.mem_map.1 h
   have:=hbase c hc
   omega
  rw [← hbs] at hnb ho' ⊢
  rw [readyD,he,if_pos rfl,rescN,rescC,hF he] at h53
  rw [if_neg (fun h=>h he)]
  rw [← hnb] at h53 ⊢
  have hlb:(intRows (natsI bs)).length=bs.length:=by rw [z12,z67]
  have h54:=z1411 (rescC (.i n.places) (.sl (n.paths.map Path.row)) (timesD n p) n.places.toNat F S)
  have h56:=z1410 (.i n.places) (.sl (n.paths.map Path.row)) (timesD n p) n.places.toNat F S hl5
  have h73:=z1425 (.i n.places) (.sl (n.paths.map Path.row)) (timesD n p) n.places.toNat F S hS bs (by intro h;rw [h] at hbsl;simp at hbsl;omega) hbm (by omega) (fullN S) ([],0) hf32 hfi
  have h57:=fun x b M hx hi hb ho=>z1409 (.i n.places) (.sl (n.paths.map Path.row)) (timesD n p) n.places.toNat F S hS 5 x b M hx hi hb ho (by decide)
  have hsl:=z342 (F:=F) (S:=S) bs (fullN S) ([],0)
  obtain⟨⟨⟨cost,sets⟩,es,c⟩,hR⟩:∃ R,R=shareM F S bs (fullN S) ([],0):=⟨_,rfl⟩
  rw [← hR] at h73 ho' hsl ⊢
  dsimp only at h73 ho' hsl ⊢
  rw [fullN] at h73
  dsimp only [teamB,selfB,memK8] at h73
  simp only [rescC,timesD,mapD,uD] at h53 h54 h56 h57 h73
  change FnG Tryd.prog 73 [_,_,.mp (some [.i64,.u64]) [] 0] _ _ _ _ at h73
  have hul:(uRows sets).length=sets.length:=by simp [uRows]
  refine z10 61 Tryd.call36 Tryd.func36 rfl (by decide) fun J=>?_
  simp only [go_sem,St.start,Tryd.ntmps36,Tryd.results36,Net.cells,Party.cells]
  repeat (first|refine nx ?_|(refine z3 fun K hK=>?_;simp only [go_sem];(repeat (first|(refine⟨_,.lent (hf:=h53) (hd:=rfl) (hr:=rfl),?_⟩;simp only [go_sem])|(refine⟨_,.given (hf:=h53) (hd:=rfl) (ha:=rfl),?_⟩;simp only [go_sem])));apply hK;clear hK K))
  refine z4 (by rfl) ?_
  repeat refine nx ?_
  refine z3 fun K hK=>?_
  simp only [go_sem]
  refine⟨_,.made (news:=[29]) (hf:=h54) (hd:=rfl) (hn:=by decide) (hl:=rfl) (hnew:=rfl) (hx:=rfl),?_⟩
  simp only [go_sem,List.map_cons,List.map_nil]
  apply hK
  clear hK K
  repeat (first|refine nx ?_|(refine z3 fun K hK=>?_;simp only [go_sem];apply hK;clear hK K))
  refine z138 (fun b=>[(32,bif b 0 then .undef else .fn 73 [.box 12 0,.box 13 0]),(33,bif b 1 then .undef else .d (.sl (intRows (natsI bs)))),(34,bif b 2 then .undef else .d (.ptr [.i n.places,.sl (n.paths.map Path.row),DV.mp none (List.map (fun e=>(e.1,e.2.2)) (entsC p (canL n p) 0)) (List.map (fun e=>e.2.1) (entsC p (canL n p) 0)) (canL n p).length,.sl (slRows (matM n.places.toNat F)),.sl (S.map SpotT.row)] 0)),
   (35,bif b 3 then .undef else .d (.int .u64 ((2 ^ S.length - 1:Nat):Int))),(36,bif b 4 then .undef else .tup [.d (.i cost),.d (.sl (uRows sets))]),(31,bif b 5 then .undef else .tup [.d (.i cost),.d (.sl (uRows sets))]),(37,bif b 6 then .undef else .d (.i cost)),(38,bif b 7 then .undef else .d (.sl (uRows sets))),
   (9,bif b 8 then .d (.i 0) else .d (.i cost)),(14,bif b 9 then .undef else .d (.sl (uRows sets))),
   (29,.agg [.d (.ptr [.i n.places,.sl (n.paths.map Path.row),DV.mp none (List.map (fun e=>(e.1,e.2.2)) (entsC p (canL n p) 0)) (List.map (fun e=>e.2.1) (entsC p (canL n p) 0)) (canL n p).length,.sl (slRows (matM n.places.toNat F)),.sl (S.map SpotT.row)] 0),bif b 4 then .mp 29 else .undef])])
   (fun b=>[(29,bif b 4 then some (.mp (some [.i64,.u64]) [] 0) else some (.mp (some [.i64,.u64]) (memB es) c))]) 10 (by kernel_rfl) (by kernel_rfl) (by kernel_rfl) (by decide) ?_ ?_ (Weak.refl _) ?_
  ·simp only [go_sem]
  ·refine⟨?_,?_,?_,?_,?_,?_,?_,?_,?_,?_,trivial⟩
   all_goals
    intro b hbm2 hdm hcm
    simp only [depsM,Region.binds,true_and,and_true,Nat.zero_add,Nat.reduceAdd,reduceCtorEq,forall_const] at hdm
    refine⟨rfl,rfl,?_⟩
    simp only [go_sem,hbm2,hdm]
   ·refine⟨_,.lent (hf:=h56) (hd:=rfl) (hr:=rfl),?_⟩
    simp only [go_sem,hbm2,hdm]
   ·simp only [closedM,List.take_succ_cons,List.take_zero,depsM,Region.binds,true_and,and_true,Nat.zero_add,Nat.reduceAdd,reduceCtorEq,forall_const] at hcm
    obtain⟨_,_,_,c3',_,c5,c6,c7,c8,c9⟩:=hcm
    have e2:=c3' hdm.2.2.1
    have e5:b 5=true:=by
     cases h:b 5 with
     | true=>rfl
     | false=>exact absurd (c5 h) (by simp [hbm2])
    have e6:b 6=true:=by
     cases h:b 6 with
     | true=>rfl
     | false=>exact absurd (c6 h) (by simp [hbm2,e5])
    have e7:b 7=true:=by
     cases h:b 7 with
     | true=>rfl
     | false=>exact absurd (c7 h) (by simp [hbm2,e5,e6])
    have e8:b 8=true:=by
     cases h:b 8 with
     | true=>rfl
     | false=>exact absurd (c8 h) (by simp [hbm2,e5,e6,e7])
    have e9:b 9=true:=by
     cases h:b 9 with
     | true=>rfl
     | false=>exact absurd (c9 h) (by simp [hbm2,e5,e6,e7])
    simp only [go_sem,e2,e5,e6,e7,e8,e9]
    refine⟨_,.own (ns:=[12,13,29]) (news:=[]) (bads:=[29]) (rd:=[]) (hf:=h73) (hnd:=by decide) (hl0:=rfl) (hl1:=rfl) (hm:=by repeat (first|exact trivial|refine And.intro ?_ ?_|rfl)) (hnew:=rfl) (hla:=rfl) (ha:=z49 (by repeat (first|exact trivial|refine And.intro ?_ ?_|exact z53 rfl|exact z42 rfl rfl))) (hrd:=rfl) (hsh:=z149 _) (hb:=rfl) (hfl:=.inl rfl),?_⟩
    simp only [go_sem,List.map_cons,List.map_nil]
  intro K hK
  simp only [go_sem]
  refine hK _ _ ?_
  clear hK K
  by_cases hc:cost ≥ farW
  ·have hd:decide (cost ≥ 1099511627776)=true:=by simpa [farW] using hc
   rw [if_pos hc]
   repeat (first|refine nx ?_|(refine z3 fun K hK=>?_;simp only [go_sem,hd];apply hK;clear hK K))
   refine z7 (by rfl) ?_
   repeat (first|refine nx ?_|(refine z3 fun K hK=>?_;simp only [go_sem];apply hK;clear hK K))
   simp only [go_sem,slRows,List.map_nil]
  ·have hd:decide (cost ≥ 1099511627776)=false:=by simpa [farW] using hc
   rw [if_neg hc]
   have hok:=ho' (by omega)
   obtain⟨TOT,hT⟩:∃ T,T=ordersM F S bs sets (es,c):=⟨_,rfl⟩
   rw [← hT]
   repeat (first|refine nx ?_|(refine z3 fun K hK=>?_;simp only [go_sem,hd];apply hK;clear hK K))
   refine z4 (by rfl) ?_
   repeat (first|refine nx ?_|(refine z3 fun K hK=>?_;simp only [go_sem,hul];apply hK;clear hK K))
   refine z13 (fun (a:Nat × List (List Int) × MemB)=>[(43,.d (.i (a.1:Int))),(8,.own 57),(15,.undef),(16,.undef),(49,.undef)]) (fun a=>[(57,some (.arr 36 1 (slRows a.2.1))),(29,some (.mp (some [.i64,.u64]) (memB a.2.2.1) a.2.2.2))])
    (fun a=>a.1≤sets.length∧a.2.1.length=a.1∧OrdsOk F S (bs.drop a.1) (sets.drop a.1) a.2.2∧TOT=a.2.1++ordersM F S (bs.drop a.1) (sets.drop a.1) a.2.2) (fun a=>sets.length - a.1) (0,[],(es,c)) ?_ ⟨Nat.zero_le _,rfl,hok,hT⟩ ?_
   ·simp only [go_sem,slRows,List.map_nil]
    refine z26 [57] ?_ ?_ ?_ ?_
    ·simp [lessT,z74,AV.less]
    ·simp [lessM,lessB,lessT,z74,AV.less]
    ·first | rfl | simp [liveB,AV.refs,AV.refs.AV.refss]
    ·first | rfl | simp [liveM,liveB,AV.refs,AV.refs.AV.refss]
   ·rintro⟨i,os,M⟩ ⟨hi,hol,hok1,hT1⟩
    dsimp only at hi hol hok1 hT1
    simp only [go_sem]
    repeat (first|refine nx ?_|(refine z3 fun K hK=>?_;simp only [go_sem];apply hK;clear hK K))
    refine z5 rfl (fun hb=>?_) (fun hb=>?_)
    ·have hlt:i<sets.length:=by simpa using hb
     have hw:IntKind.i64.wrap ((i:Int) + 1)=((i + 1:Nat):Int):=by rw [z9 (by omega)];simp
     obtain⟨x,hx⟩:∃ x,sets[i]?=some x:=⟨_,List.getElem?_eq_getElem hlt⟩
     rw [z44 hx] at hok1 hT1
     have hbi:i<bs.length:=by omega
     obtain⟨b,hb2⟩:∃ b,bs[i]?=some b:=⟨_,List.getElem?_eq_getElem hbi⟩
     rw [z44 hb2,OrdsOk] at hok1
     rw [z44 hb2,ordersM] at hT1
     obtain⟨⟨x1,x2⟩,x3,x4⟩:=hok1
     have h57o:=h57 x b M x1 x2 (hbm b (List.mem_of_getElem? hb2)) x3
     obtain⟨O,hO⟩:∃ O,O=orderM F S 5 b x M:=⟨_,rfl⟩
     rw [← hO] at h57o x4 hT1
     obtain⟨ol,M2⟩:=O
     obtain⟨es2,c2⟩:=M2
     dsimp only at h57o x4 hT1
     have h57d:=h57o.deepMp (d:=.sl (intRows ol)) rfl (by simp [AV.refs]) (by simp [AV.refs])
     have g1:(uRows sets)[i]?=some [.int .u64 (x:Int)]:=by rw [uRows,List.getElem?_map,hx];rfl
     have g2:=z85 (z313 hb2)
     have nk:¬ ((i:Int)<0):=by omega
     have hos:(slRows os).length≤549755813887:=by simp [slRows];omega
     have hap:slRows os++[[DV.sl (intRows ol)]]=slRows (os++[ol]):=by simp [slRows]
     repeat (first|refine nx ?_|(refine z3 fun K hK=>?_;simp only [go_sem,g1,nk,hlt,hul];apply hK;clear hK K))
     refine z137 9 (by kernel_rfl) (by kernel_rfl) (by kernel_rfl) (by decide) fun K hK=>?_
     simp only [go_sem,g2,nk,hbi,hlb]
     refine⟨_,.inPlace (n:=29) (hf:=h57d) (hn:=rfl) (hb:=rfl) (hla:=rfl) (ha:=z49 (by repeat (first|exact trivial|refine And.intro ?_ ?_|exact z53 rfl|exact z42 rfl rfl))) (hx:=by first|decide|simp [AV.refsAll,AV.refs,AV.refs.AV.refss]),?_⟩
     simp only [go_sem]
     refine⟨by kernel_rfl,?_⟩
     simp only [go_sem,hos,List.length_cons,List.length_nil,hap]
     refine hK _ _ ?_
     clear hK K
     repeat (first|refine nx ?_|(refine z3 fun K hK=>?_;simp only [go_sem,hw];apply hK;clear hK K))
     refine⟨rfl,(i + 1,os++[ol],(es2,c2)),?_,⟨hlt,by simp [hol],x4,by rw [hT1];simp⟩,by dsimp only;omega⟩
     try simp only [go_sem]
     refine weA ?_ ?_ <;> simp
    ·have he:i=sets.length:=by (have:¬ i<sets.length:=by simpa using hb);omega
     subst he
     have hfin:TOT=os:=by
      rw [hT1,List.drop_length]
      cases bs.drop sets.length <;> simp [ordersM]
     rw [hfin]
     repeat refine nx ?_
     refine z71 [57] ?_
     simp only [go_sem]
     repeat (first|refine nx ?_|(refine z3 fun K hK=>?_;simp only [go_sem];apply hK;clear hK K))
     simp only [go_sem]
 ·have hne:(readyE n p bases S != 0)=true:=by simpa using he
  rw [if_pos he]
  rw [readyD,if_neg he] at h53
  refine z10 61 Tryd.call36 Tryd.func36 rfl (by decide) fun J=>?_
  simp only [go_sem,St.start,Tryd.ntmps36,Tryd.results36,Net.cells,Party.cells]
  rw [Net.cells,Party.cells] at h53
  repeat (first|refine nx ?_|(refine z3 fun K hK=>?_;simp only [go_sem,hne];(repeat (first|(refine⟨_,.lent (hf:=h53) (hd:=rfl) (hr:=rfl),?_⟩;simp only [go_sem,hne])|(refine⟨_,.given (hf:=h53) (hd:=rfl) (ha:=rfl),?_⟩;simp only [go_sem,hne])));apply hK;clear hK K))
  refine z7 (by rfl) ?_
  repeat (first|refine nx ?_|(refine z3 fun K hK=>?_;simp only [go_sem];apply hK;clear hK K))
  simp only [go_sem,slRows,List.map_nil]
end Go.Ab
namespace Go.Ab
open Go.RowKit Go.Proofs
set_option maxHeartbeats 4000000
def seenB (k:Nat) (A:List Nat):List Bool:=(List.range k).map fun i=>A.contains i
theorem z150 (k:Nat) (A:List Nat):(seenB k A).length=k:=by simp [seenB]
theorem z187 {k i:Nat} (A:List Nat) (h:i<k):(seenB k A)[i]?=some (A.contains i):=by simp [seenB,h]
theorem z1115 (k:Nat):seenB k []=List.replicate k false:=by
 apply List.ext_getElem?
 intro i
 by_cases h:i<k
 ·rw [z187 _ h];simp [h]
 ·rw [List.getElem?_eq_none (by rw [z150];omega),List.getElem?_eq_none (by simp;omega)]
theorem z708 {k i:Nat} (A:List Nat) (h:i<k):(seenB k A).set i true=seenB k (A++[i]):=by
 apply List.ext_getElem?
 intro j
 rw [List.getElem?_set]
 by_cases hj:j<k
 ·rw [z187 _ hj,z187 _ hj,z150]
  by_cases hij:i=j
  ·subst hij;simp [h]
  ·rw [if_neg hij]
   simp [Ne.symm hij]
 ·rw [List.getElem?_eq_none (l:=seenB k A) (by rw [z150];omega),List.getElem?_eq_none (l:=seenB k (A++[i])) (by rw [z150];omega),if_neg (by omega)]
theorem z482 {k:Nat} {A:List Nat} {s:Int} {t:List Bool}:mark1 (seenB k A) s=some t↔∃ i:Nat,s=i∧i<k∧i ∉ A∧t=seenB k (A++[i]):=by
 rw [mark1,z150]
 constructor
 ·intro h
  split at h
  ·cases h
  ·rename_i hc
   obtain⟨i,rfl⟩:∃ i:Nat,s=i:=⟨s.toNat,by omega⟩
   have hik:i<k:=by omega
   rw [Int.toNat_natCast,List.getD_eq_getElem?_getD,z187 _ hik] at h
   split at h
   ·cases h
   ·rename_i hn
    cases h
    refine⟨i,rfl,hik,?_,(z708 A hik)⟩
    simpa using hn
 ·rintro⟨i,rfl,hik,hA,rfl⟩
  rw [if_neg (by omega),Int.toNat_natCast,List.getD_eq_getElem?_getD,z187 _ hik,if_neg (by simpa using hA),z708 A hik]
theorem z240 {k:Nat}:∀ {o:List Int} {A:List Nat} {t:List Bool},markO (seenB k A) o=some t↔∃ l:List Nat,o=natsI l∧(∀ i ∈ l,i<k)∧l.Nodup∧(∀ i ∈ l,i ∉ A)∧t=seenB k (A++l)
 | [],A,t=>by
  rw [markO]
  constructor
  ·intro h
   cases h
   exact⟨[],rfl,by simp,by simp,by simp,by simp⟩
  ·rintro⟨l,h,_,_,_,rfl⟩
   cases l with
   | nil=>simp
   | cons i l=>cases h
 | s::o,A,t=>by
  rw [markO]
  constructor
  ·intro h
   split at h
   ·cases h
   ·rename_i u hu
    obtain⟨i,rfl,hik,hA,rfl⟩:=z482.1 hu
    obtain⟨l,rfl,h1,h2,h3,rfl⟩:=z240.1 h
    refine⟨i::l,rfl,?_,?_,?_,by simp⟩
    ·intro j hj
     rcases List.mem_cons.1 hj with rfl | hj
     ·exact hik
     ·exact h1 j hj
    ·rw [List.nodup_cons]
     exact⟨fun hc=>h3 i hc (by simp),h2⟩
    ·intro j hj hA2
     rcases List.mem_cons.1 hj with rfl | hj
     ·exact hA hA2
     ·exact h3 j hj (by simp [hA2])
  ·rintro⟨l,h,h1,h2,h3,rfl⟩
   cases l with
   | nil=>cases h
   | cons i l =>
    rw [z481] at h
    cases h
    have hu:mark1 (seenB k A) (i:Int)=some (seenB k (A++[i])):=z482.2 ⟨i,rfl,h1 i (by simp),h3 i (by simp),rfl⟩
    rw [hu]
    rw [List.nodup_cons] at h2
    refine z240.2 ⟨l,rfl,fun j hj=>h1 j (by simp [hj]),h2.2,fun j hj hc=>?_,by simp⟩
    rcases List.mem_append.1 hc with hc | hc
    ·exact h3 j (by simp [hj]) hc
    ·have:j=i:=by simpa using hc
     subst this
     exact h2.1 hj
def reachS (F:Mat) (S:List SpotT):List Nat→List (List Nat)→Prop
 | b::bs,l::ls=>reachL F S b l∧reachS F S bs ls
 | _,_=>True
def costS (F:Mat) (S:List SpotT):List Nat→List (List Nat)→Int
 | b::bs,l::ls=>costL F S b l + costS F S bs ls
 | _,_=>0
theorem z480 (l:List Nat):(natsI l).map Int.toNat=l:=by
 rw [natsI,List.map_map]
 conv=>rhs;rw [← List.map_id l]
 apply List.map_congr_left
 intro i _
 simp
theorem z479 {k:Nat} {A:List Nat} (hn:A.Nodup) (h:∀ i ∈ A,i<k):A.length≤k:=by
 have h1:A.Perm ((List.range k).filter fun i=>A.contains i):=(List.perm_ext_iff_of_nodup hn (List.Pairwise.filter _ List.nodup_range)).2 fun i=>by
  rw [List.mem_filter,List.mem_range]
  constructor
  ·intro hi;exact⟨h i hi,by simpa using hi⟩
  ·intro hi;simpa using hi.2
 have h2:=h1.length_eq
 have h3:=List.length_filter_le (fun i=>A.contains i) (List.range k)
 rw [List.length_range] at h3
 omega
theorem z219 {m:Nat} {F G:Mat} {S:List SpotT} (h:PlanB m F G S):∀ (bs:List Nat) (os:List (List Int)) (A:List Nat) (sum many c:Int),os.length=bs.length→A.Nodup→(∀ i ∈ A,i<S.length)→many=A.length→0≤sum→sum≤96300000 * A.length →
  (sharedR G S bs os (seenB S.length A) sum many=(c,true)↔∃ ls:List (List Nat),os=ls.map natsI∧ls.length=bs.length∧(A++ls.flatten).Nodup∧(∀ i ∈ ls.flatten,i<S.length)∧A.length + ls.flatten.length=S.length∧reachS F S bs ls∧c=sum + costS F S bs ls)
 | [],os,A,sum,many,c,hl,hn,hA,hm,_,_=>by
  have h0:os=[]:=List.length_eq_zero_iff.1 hl
  subst h0
  have e0:sharedR G S [] [] (seenB S.length A) sum many=(sum,many == ((seenB S.length A).length:Int)):=rfl
  rw [e0,z150]
  constructor
  ·intro hh
   have h1:=congrArg Prod.fst hh
   have h2:=congrArg Prod.snd hh
   dsimp only at h1 h2
   rw [beq_iff_eq] at h2
   exact⟨[],rfl,rfl,by simpa using hn,by simp,by simp;omega,trivial,by simp [costS,h1]⟩
  ·rintro⟨ls,_,h2,_,_,h5,_,rfl⟩
   have h0:ls=[]:=List.length_eq_zero_iff.1 h2
   subst h0
   refine Prod.ext (by simp [costS]) ?_
   dsimp only
   rw [beq_iff_eq,hm]
   simp at h5
   omega
 | b::bs,[],A,sum,many,c,hl,_,_,_,_,_=>by simp at hl
 | b::bs,o::os,A,sum,many,c,hl,hn,hA,hm,hs0,hs1=>by
  have hlen:=h.nice.spots.len
  have hnw:neverW=1073741824:=rfl
  rw [sharedR]
  have key:∀ l:List Nat,o=natsI l→(∀ i ∈ l,i<S.length)→l.Nodup→(∀ i ∈ l,i ∉ A)→markO (seenB S.length A) o=some (seenB S.length (A++l))∧(A++l).Nodup∧(∀ i ∈ A++l,i<S.length)∧l.length≤5∧(A++l).length≤5:=by
   intro l hl1 hl2 hl3 hl4
   have hn2:(A++l).Nodup:=by
    rw [List.nodup_append]
    exact⟨hn,hl3,fun a ha b hb hab=>hl4 b hb (hab ▸ ha)⟩
   have hin:∀ i ∈ A++l,i<S.length:=fun i hi=>by
    rcases List.mem_append.1 hi with hi | hi
    ·exact hA i hi
    ·exact hl2 i hi
   have h5:=z479 hn2 hin
   have h6:=z479 hl3 hl2
   exact⟨z240.2 ⟨l,hl1,hl2,hl3,hl4,rfl⟩,hn2,hin,by omega,by omega⟩
  constructor
  ·intro hh
   split at hh
   ·cases hh
   ·rename_i t ht
    obtain⟨l,rfl,l1,l2,l3,rfl⟩:=z240.1 ht
    obtain⟨_,k2,k3,k4,k5⟩:=key l rfl l1 l2 l3
    rw [z480] at hh
    rcases z933 h l1 k4 b with ⟨r1,r2,r3,r4⟩ | ⟨_,r2⟩
    ·rw [r2,if_neg (by dsimp only;omega)] at hh
     dsimp only at hh
     have hcr:=z159 h l b k4 l1 r1
     have hal:A.length + l.length≤5:=by rw [← List.length_append];exact k5
     have hw:wr (sum + costL F S b l)=sum + costL F S b l:=z9 (by omega)
     rw [hw] at hh
     obtain⟨ls,g1,g2,g3,g4,g5,g6,g7⟩:=(z219 h bs os (A++l) (sum + costL F S b l) (many + ((natsI l).length:Int)) c (by simpa using hl) k2 k3 (by rw [z67,List.length_append];omega) (by omega) (by rw [List.length_append];omega)).1 hh
     refine⟨l::ls,by rw [g1];rfl,by simp [g2],by simpa using g3,?_,by simp at g5 ⊢;omega,⟨r1,g6⟩,by rw [g7,costS];omega⟩
     intro i hi
     rw [List.flatten_cons,List.mem_append] at hi
     rcases hi with hi | hi
     ·exact l1 i hi
     ·exact g4 i hi
    ·rw [r2,if_pos (by dsimp only;omega)] at hh
     cases hh
  ·rintro⟨ls,g1,g2,g3,g4,g5,g6,g7⟩
   cases ls with
   | nil=>simp at g2
   | cons l ls =>
    rw [List.map_cons] at g1
    cases g1
    rw [List.flatten_cons] at g3 g4 g5
    rw [← List.append_assoc,List.nodup_append] at g3
    obtain⟨n1,n2,n3⟩:=g3
    have n1':=n1
    rw [List.nodup_append] at n1'
    have l1:∀ i ∈ l,i<S.length:=fun i hi=>g4 i (by simp [hi])
    obtain⟨k1,k2,k3,k4,k5⟩:=key l rfl l1 n1'.2.1 (fun i hi hc=>n1'.2.2 i hc i hi rfl)
    rw [k1]
    dsimp only
    rw [z480]
    rcases z933 h l1 k4 b with ⟨r1,r2,r3,r4⟩ | ⟨r1,r2⟩
    ·rw [r2,if_neg (by dsimp only;omega)]
     dsimp only
     have hcr:=z159 h l b k4 l1 r1
     have hal:A.length + l.length≤5:=by rw [← List.length_append];exact k5
     have hw:wr (sum + costL F S b l)=sum + costL F S b l:=z9 (by omega)
     rw [hw]
     refine (z219 h bs (ls.map natsI) (A++l) (sum + costL F S b l) (many + ((natsI l).length:Int)) c (by simpa using hl) k2 k3 (by rw [z67,List.length_append];omega) (by omega) (by rw [List.length_append];omega)).2 ⟨ls,rfl,by simpa using g2,?_,fun i hi=>g4 i (by simp [hi]),by simp at g5 ⊢;omega,g6.2,by rw [g7,costS];omega⟩
     rw [List.nodup_append]
     exact⟨n1,n2,n3⟩
    ·exact absurd g6.1 r1
structure PlansOk (F:Mat) (S:List SpotT) (bs:List Nat) (ls:List (List Nat)):Prop where
 len:ls.length=bs.length
 all:ls.flatten.Perm (List.range S.length)
 reach:reachS F S bs ls
theorem z1037 {m:Nat} {F G:Mat} {S:List SpotT} (h:PlanB m F G S) (bs:List Nat) (os:List (List Int)) (c:Int) :
  sharedF G S bs os=(c,true)↔∃ ls:List (List Nat),os=ls.map natsI∧PlansOk F S bs ls∧c=costS F S bs ls:=by
 rw [sharedF]
 by_cases hne:os.length≠bs.length
 ·rw [if_pos hne]
  constructor
  ·intro hh;cases hh
  ·rintro⟨ls,rfl,h1,_⟩
   exact absurd (by simp [h1.len]) hne
 ·rw [if_neg hne,← z1115,z219 h bs os [] 0 0 c (by omega) (by simp) (by simp) rfl (Int.le_refl _) (by simp)]
  constructor
  ·rintro⟨ls,h1,h2,h3,h4,h5,h6,h7⟩
   refine⟨ls,h1,⟨h2,?_,h6⟩,by rw [h7];omega⟩
   rw [List.nil_append] at h3
   refine (List.perm_ext_iff_of_nodup h3 List.nodup_range).2 fun i=>?_
   rw [List.mem_range]
   refine⟨h4 i,fun hi=>?_⟩
   have hsub:ls.flatten.Perm ((List.range S.length).filter fun i=>ls.flatten.contains i):=(List.perm_ext_iff_of_nodup h3 (List.Pairwise.filter _ List.nodup_range)).2 fun j=>by
    rw [List.mem_filter,List.mem_range]
    exact⟨fun hj=>⟨h4 j hj,by simpa using hj⟩,fun hj=>by simpa using hj.2⟩
   have hle:=hsub.length_eq
   simp only [List.length_nil,Nat.zero_add] at h5
   have hall:∀ j ∈ List.range S.length,(ls.flatten.contains j)=true:=List.length_filter_eq_length_iff.1 (by rw [← hle,h5,List.length_range])
   simpa using hall i (List.mem_range.2 hi)
  ·rintro⟨ls,h1,h2,h3⟩
   refine⟨ls,h1,h2.len,?_,fun i hi=>List.mem_range.1 (h2.all.mem_iff.1 hi),by simpa using h2.all.length_eq,h2.reach,by rw [h3];omega⟩
   rw [List.nil_append]
   exact h2.all.nodup_iff.2 List.nodup_range
end Go.Ab
namespace Go.Ab
open Go.RowKit Go.Proofs
set_option maxHeartbeats 4000000
theorem z1130:∀ (bs:List Nat) (s:Nat) (xs:List Nat),PartS bs s xs→s<32→xs.length=bs.length∧(∀ x ∈ xs,x<32∧∀ i ∈ elems x,i ∈ elems s)∧(xs.map elems).flatten.Perm (elems s)
 | [],_,_,h,_=>h.elim
 | [b],s,xs,h,hs=>by
  rw [PartS] at h
  subst h
  exact⟨rfl,fun x hx=>by simp at hx;subst hx;exact⟨hs,fun i hi=>hi⟩,by simp⟩
 | b::c::t,s,xs,h,hs=>by
  obtain⟨o,r,rfl,ho,hr⟩:=h
  obtain⟨p1,p2,p3,p4⟩:=z41 hs ho
  obtain⟨h1,h2,h3⟩:=z1130 (c::t) (s - o) r hr p3
  refine⟨by simp [h1],fun x hx=>?_,?_⟩
  ·rcases List.mem_cons.1 hx with rfl | hx
   ·exact⟨p2,fun i hi=>p4.mem_iff.2 (by simp [hi])⟩
   ·exact⟨(h2 x hx).1,fun i hi=>p4.mem_iff.2 (by simp [(h2 x hx).2 i hi])⟩
  ·rw [List.map_cons,List.flatten_cons]
   exact (h3.append_left _).trans p4.symm
def ordersV (F:Mat) (S:List SpotT):List Nat→List Nat→List (List Nat)
 | b::bs,x::xs=>orderV F S 5 b x::ordersV F S bs xs
 | _,_=>[]
theorem z463 {m:Nat} {F G:Mat} {S:List SpotT} (h:PlanB m F G S):∀ (bs xs:List Nat),(∀ b ∈ bs,b<m)→(∀ x ∈ xs,x<32∧∀ i ∈ elems x,i<S.length)→0≤sumV F S bs xs
 | [],xs,_,_=>by rw [sumV.eq_def];simp
 | b::bs,[],_,_=>by simp [sumV]
 | b::bs,x::xs,hb,hx=>by
  have h1:=z160 h (hb b (by simp)) (hx x (by simp)).1 (hx x (by simp)).2
  have h2:=z463 h bs xs (fun c hc=>hb c (by simp [hc])) (fun y hy=>hx y (by simp [hy]))
  rw [sumV]
  omega
theorem z718 {m:Nat} {F G:Mat} {S:List SpotT} (h:PlanB m F G S):∀ (bs xs:List Nat) (M:MemB),(∀ b ∈ bs,b<m)→xs.length=bs.length→(∀ x ∈ xs,x<32∧∀ i ∈ elems x,i<S.length)→sumV F S bs xs<farW→SoundB F S M →
  OrdsOk F S bs xs M∧ordersM F S bs xs M=(ordersV F S bs xs).map natsI∧reachS F S bs (ordersV F S bs xs)∧costS F S bs (ordersV F S bs xs)=sumV F S bs xs∧(ordersV F S bs xs).flatten.Perm (xs.map elems).flatten∧(ordersV F S bs xs).length=bs.length
 | [],[],M,_,_,_,_,_=>⟨trivial,rfl,trivial,rfl,.refl _,rfl⟩
 | [],x::xs,M,_,hl,_,_,_=>by simp at hl
 | b::bs,[],M,_,hl,_,_,_=>by simp at hl
 | b::bs,x::xs,M,hb,hl,hx,hc,hM=>by
  have hbb:=hb b (by simp)
  obtain⟨hx1,hx2⟩:=hx x (by simp)
  have hb':∀ c ∈ bs,c<m:=fun c hc=>hb c (by simp [hc])
  have hx':∀ y ∈ xs,y<32∧∀ i ∈ elems y,i<S.length:=fun y hy=>hx y (by simp [hy])
  have h1:=z160 h hbb hx1 hx2
  have h2:=z463 h bs xs hb' hx'
  rw [sumV] at hc
  have hcb:(bestV F S 5 b x).1<farW:=by omega
  obtain⟨o1,o2,o3,_⟩:=z154 h 5 b x hbb hx1 hx2 (z19 x hx1) hcb
  obtain⟨e1,e2⟩:=z957 h 5 b x M hbb hx1 hx2 (z19 x hx1) hM hcb
  obtain⟨g1,g2,g3,g4,g5,g6⟩:=z718 h bs xs (orderM F S 5 b x M).2 hb' (by simpa using hl) hx' (by omega) e2
  refine⟨⟨⟨hx1,hx2⟩,z1264 h.nice 5 b x M hbb hx1 hx2 (z19 x hx1) hM hcb,g1⟩,?_,⟨o2,g3⟩,?_,?_,by rw [ordersV,List.length_cons,g6,List.length_cons]⟩
  ·rw [ordersM,ordersV,List.map_cons,g2,e1];rfl
  ·rw [ordersV,costS,sumV,g4,o3]
  ·rw [ordersV,List.flatten_cons,List.map_cons,List.flatten_cons]
   exact o1.append g5
theorem z612 {n:Net} {p:Party} {bases:List Int} {S:List SpotT} (h:readyE n p bases S=0) (hl:S.length≤5) (h5:n.places≤5) :
  ((shareT (allM n p) S bases).1.1<farW→OrdsOk (allM n p) S (bases.map Int.toNat) (shareT (allM n p) S bases).1.2 (shareT (allM n p) S bases).2) ∧
  ((farW≤(shareV (allM n p) S (bases.map Int.toNat) (fullN S)).1∧teamsC n p (allM n p) bases S=([],0,3)∧teamsD n p bases S=(0,3)) ∨
   ((shareV (allM n p) S (bases.map Int.toNat) (fullN S)).1<farW∧∃ ls,teamsC n p (allM n p) bases S=(ls.map natsI,(shareV (allM n p) S (bases.map Int.toNat) (fullN S)).1,0)∧PlansOk (allM n p) S (bases.map Int.toNat) ls ∧
     costS (allM n p) S (bases.map Int.toNat) ls=(shareV (allM n p) S (bases.map Int.toNat) (fullN S)).1∧teamsD n p bases S=((shareV (allM n p) S (bases.map Int.toNat) (fullN S)).1,0))):=by
 have hP:=z1263 h hl h5
 obtain⟨hn,hp,hlen,hsp,hbl,hbs⟩:=z116 h
 have hf:=z584 hl
 have hfi:=z317 _ hl
 have he:elems (fullN S)=List.range S.length:=z1076 _ hl
 have hnw:neverW=1073741824:=rfl
 have hfw:farW=1099511627776:=rfl
 have hb0:bases.map Int.toNat≠[]:=by intro hh;have:=congrArg List.length hh;simp at this;subst this;simp at hbl
 have hbm:∀ b ∈ bases.map Int.toNat,b<n.places.toNat:=by
  intro b hb
  obtain⟨c,hc,rfl⟩:=List.mem_map.1 hb
  have:=hbs c hc
  omega
 have hl1:=z343 hP (bases.map Int.toNat) (fullN S) hb0 hbm hf hfi
 obtain⟨s1,s2⟩:=z469 (F:=allM n p) (S:=S) (bases.map Int.toNat) (fullN S) ([],0) hf (fun e he=>by simp at he)
 have hsame:=z470 hP (bases.map Int.toNat) (fullN S) hb0 hbm hf hfi
 have e1:teamsC n p (allM n p) bases S=if (shareT (allM n p) S bases).1.1 ≥ farW then ([],0,3) else (ordersM (allM n p) S (bases.map Int.toNat) (shareT (allM n p) S bases).1.2 (shareT (allM n p) S bases).2,(shareT (allM n p) S bases).1.1,0):=by
  unfold teamsC
  exact if_neg (fun hh=>hh h)
 have e2:teamsD n p bases S=if shareD (allR n p) S (bases.map Int.toNat) (fullN S) ≥ neverW then (0,3) else (shareD (allR n p) S (bases.map Int.toNat) (fullN S),0):=by
  unfold teamsD
  exact if_neg (fun hh=>hh h)
 rw [e1,e2,hsame,shareT,s1]
 have hlenf:=z19 (fullN S) hf
 by_cases hc:(shareV (allM n p) S (bases.map Int.toNat) (fullN S)).1<farW
 ·obtain⟨q1,q2⟩:=hl1.2.2 hc
  obtain⟨r1,r2,r3⟩:=z1130 _ _ _ q1 hf
  obtain⟨g1,g2,g3,g4,g5,g6⟩:=z718 hP (bases.map Int.toNat) _ (shareM (allM n p) S (bases.map Int.toNat) (fullN S) ([],0)).2 hbm r1 (fun x hx=>⟨(r2 x hx).1,fun i hi=>hfi i ((r2 x hx).2 i hi)⟩) (by omega) s2
  refine⟨fun _=>g1,.inr ⟨hc,_,?_,⟨g6,?_,g3⟩,by rw [g4,q2],?_⟩⟩
  ·rw [if_neg (by omega),g2]
  ·rw [← he];exact g5.trans r3
  ·rw [if_pos hc,if_neg (by omega)]
 ·refine⟨fun hh=>absurd hh hc,.inl ⟨by omega,?_,?_⟩⟩
  ·rw [if_pos (by omega)]
  ·rw [if_neg hc,if_pos (by omega)]
end Go.Ab
namespace Go.Ab
open Go.RowKit Go.Proofs
set_option maxHeartbeats 8000000
set_option maxRecDepth 20000
attribute [local irreducible] WalkL Walk
def oneT (b:Int) (s:SpotT):SpotT:={ s with pl:=b }
def oneS (b:Int) (S:List SpotT):List SpotT:=S.map (oneT b)
end Go.Ab
namespace Go.Ab
open Go.RowKit Go.Proofs
set_option maxHeartbeats 16000000
set_option maxRecDepth 20000
attribute [local irreducible] WalkL Walk
def partS (b:Int) (S:List SpotT) (i:Nat):List (List DV):=((S.take i).map (oneT b)).map SpotT.row++(S.drop i).map SpotT.row
theorem z897 (l:List SpotT):headIs 3 (l.map SpotT.row)=true:=by cases l <;> rfl
end Go.Ab
namespace Go.Ab
open Go.RowKit Go.Proofs
set_option maxHeartbeats 16000000
set_option maxRecDepth 20000
attribute [local irreducible] WalkL Walk
theorem z498 {n:Net} {p:Party} (h:farM n=false) (hg:n.Good):n.places≤5:=by
 simp only [farM,Bool.or_eq_false_iff,Bool.and_eq_false_iff,decide_eq_false_iff_not,Bool.not_eq_false'] at h
 have hb:badNet n=false:=by
  have:=z139.2 hg
  simpa using this
 rcases h.2.2 with h1 | h1
 ·rw [hb] at h1;cases h1
 ·omega
theorem z1171 {n:Net} {p:Party} {bases:List Int} {S:List SpotT} {mins:Int} (h:farSe ⟨p,bases,S,mins⟩=false):S.length≤5∨readyE n p bases S≠0:=by
 by_cases he:readyE n p bases S=0
 ·obtain⟨_,_,hlen,_⟩:=z116 he
  simp only [farSe,Bool.or_eq_false_iff,Bool.and_eq_false_iff,decide_eq_false_iff_not] at h
  left;omega
 ·exact .inr he
theorem z1446 (n:Net) (x:SearchT) (hs:n.Small) (hb:x.bases.length<2 ^ 30) (hl:x.spots.length<2 ^ 30):Fn Tryd.prog 10 [.agg n.cells,.agg x.row] (.bool true):=by
 have h22:=z1441 n hs
 have h37:=z1436 x
 have h14:=z1445
 have hrb:=z12 x.bases
 have hsl:(x.spots.map SpotT.row).length=x.spots.length:=by simp
 obtain⟨p,bases,S,mins⟩:=x
 dsimp only at hb hl hrb hsl
 cases q1:farM n
 case true =>
  rw [q1] at h22
  rw [Net.cells] at *
  rw [SearchT.row] at *
  refine z10 83 Tryd.call10 Tryd.func10 rfl (by decide) fun J=>?_
  simp only [go_sem,St.start,Tryd.ntmps10,Tryd.results10,Net.cells,SearchT.row]
  repeat (first|refine nx ?_|(refine z3 fun K hK=>?_;simp only [go_sem];(repeat (first|(refine⟨_,.lent (hf:=h22) (hd:=rfl) (hr:=rfl),?_⟩;simp only [go_sem])|(refine⟨_,.given (hf:=h22) (hd:=rfl) (ha:=rfl),?_⟩;simp only [go_sem])));apply hK;clear hK K))
  refine z7 (by rfl) ?_
  repeat (first|refine nx ?_|(refine z3 fun K hK=>?_;simp only [go_sem];(repeat (first|(refine⟨_,.lent (hf:=h14) (hd:=rfl) (hr:=rfl),?_⟩;simp only [go_sem])|(refine⟨_,.given (hf:=h14) (hd:=rfl) (ha:=rfl),?_⟩;simp only [go_sem])));apply hK;clear hK K))
  simp only [go_sem]
 case false =>
  cases q2:farSe ⟨p,bases,S,mins⟩
  case true =>
   rw [q1] at h22
   rw [q2] at h37
   rw [Net.cells] at *
   rw [SearchT.row] at *
   refine z10 83 Tryd.call10 Tryd.func10 rfl (by decide) fun J=>?_
   simp only [go_sem,St.start,Tryd.ntmps10,Tryd.results10,Net.cells,SearchT.row]
   repeat (first|refine nx ?_|(refine z3 fun K hK=>?_;simp only [go_sem];(repeat (first|(refine⟨_,.lent (hf:=h22) (hd:=rfl) (hr:=rfl),?_⟩;simp only [go_sem])|(refine⟨_,.lent (hf:=h37) (hd:=rfl) (hr:=rfl),?_⟩;simp only [go_sem])|(refine⟨_,.given (hf:=h22) (hd:=rfl) (ha:=rfl),?_⟩;simp only [go_sem])|(refine⟨_,.given (hf:=h37) (hd:=rfl) (ha:=rfl),?_⟩;simp only [go_sem])));apply hK;clear hK K))
   refine z7 (by rfl) ?_
   repeat (first|refine nx ?_|(refine z3 fun K hK=>?_;simp only [go_sem];(repeat (first|(refine⟨_,.lent (hf:=h14) (hd:=rfl) (hr:=rfl),?_⟩;simp only [go_sem])|(refine⟨_,.given (hf:=h14) (hd:=rfl) (ha:=rfl),?_⟩;simp only [go_sem])));apply hK;clear hK K))
   simp only [go_sem]
  case false =>
   have hl5:=z1171 (n:=n) q2
   have h19:=z1443 n hs
   have h36:=z1437 n p (allM n p) bases S hs hb hl hl5 (fun _=>rfl) (fun he=>(z612 he (hl5.resolve_right fun h=>h he) (z498 (p:=p) q1 (z116 he).1)).1)
   have h38:=z1435 n p bases S hs hb hl hl5
   have key:(∃ e,e≠0∧teamsC n p (allM n p) bases S=([],0,e)∧teamsD n p bases S=(0,e)) ∨
     (∃ os c,teamsC n p (allM n p) bases S=(os,c,0)∧teamsD n p bases S=(c,0)∧os.length<2 ^ 30∧Fn Tryd.prog 32 [.agg n.cells,.agg (SearchT.mk p bases S mins).row,.sl (slRows os)] (.tup [.i c,.bool true])):=by
    by_cases he:readyE n p bases S=0
    ·have hS5:=hl5.resolve_right fun h=>h he
     obtain⟨hg,hp,hlen,hsp,hbl,hbs⟩:=z116 he
     have hp5:=z498 (p:=p) q1 hg
     rcases (z612 he hS5 hp5).2 with ⟨_,g1,g2⟩ | ⟨hc,ls,g1,g2,g3,g4⟩
     ·exact .inl ⟨3,by decide,g1,g2⟩
     ·refine .inr ⟨_,_,g1,g4,?_,?_⟩
      ·rw [List.length_map,g2.len,List.length_map];omega
      ·have h32:=z1438 n p bases S mins (ls.map natsI) hg ⟨hS5,fun s hs=>by have:=(hsp s hs).1;have:=hg.places;omega⟩ hbs hb (by rw [List.length_map,g2.len,List.length_map];omega) (fun o ho=>by
        obtain⟨l,hl,rfl⟩:=List.mem_map.1 ho
        rw [z67]
        have h1:l.length≤ls.flatten.length:=by
         obtain⟨a,b,rfl⟩:=List.append_of_mem hl
         simp;omega
        rw [g2.all.length_eq,List.length_range] at h1
        omega)
       rw [(z1037 (z1263 he hS5 hp5) (bases.map Int.toNat) (ls.map natsI) _).2 ⟨ls,rfl,g2,g3.symm⟩] at h32
       exact h32
    ·refine .inl ⟨_,he,?_,?_⟩
     ·unfold teamsC
      exact if_pos he
     ·unfold teamsD
      exact if_pos he
   have hcb:bases.length≤549755813888:=by omega
   have hcs:S.length≤549755813888:=by omega
   have hhb:headIs 1 (intRows bases)=true:=by cases bases <;> rfl
   have hhs:=z897 S
   rcases key with ⟨e,he0,k1,k2⟩ | ⟨os,c,k1,k2,k3,h32⟩
   ·rw [k1] at h36
    rw [k2] at h38
    rw [q1] at h22
    rw [q2] at h37
    dsimp only at h36 h38
    have d1:((0:Int) != 0)=false:=by decide
    have d2:(e != e)=false:=by simp
    have d3:(e != 0)=true:=by simpa using he0
    rw [Net.cells] at *
    rw [SearchT.row] at *
    rw [Party.cells] at h36 h38
    refine z10 83 Tryd.call10 Tryd.func10 rfl (by decide) fun J=>?_
    simp only [go_sem,St.start,Tryd.ntmps10,Tryd.results10,Net.cells,SearchT.row]
    repeat (first|refine nx ?_|(refine z3 fun K hK=>?_;simp only [go_sem];(repeat (first|(refine⟨_,.lent (hf:=h22) (hd:=rfl) (hr:=rfl),?_⟩;simp only [go_sem])|(refine⟨_,.lent (hf:=h37) (hd:=rfl) (hr:=rfl),?_⟩;simp only [go_sem])|(refine⟨_,.given (hf:=h22) (hd:=rfl) (ha:=rfl),?_⟩;simp only [go_sem])|(refine⟨_,.given (hf:=h37) (hd:=rfl) (ha:=rfl),?_⟩;simp only [go_sem])));apply hK;clear hK K))
    refine z4 (by rfl) ?_
    repeat refine nx ?_
    refine z185 [27,31] (by kernel_rfl) (by kernel_rfl) fun K hK=>?_
    simp only [go_sem,hrb,hsl,hcb,hcs,hhb,hhs,List.nil_append,List.length_nil,List.length_map,Nat.zero_add]
    refine⟨_,.fn (hf:=h19) (hd:=rfl) (hr:=.inr rfl),?_⟩
    simp only [go_sem,hrb,hsl,hcb,hcs,hhb,hhs,List.nil_append,List.length_nil,List.length_map,Nat.zero_add]
    refine⟨_,.fn (hf:=h36) (hd:=rfl) (hr:=.inr rfl),?_⟩
    simp only [go_sem,slRows,List.map_nil]
    refine⟨by kernel_rfl,hK _ ?_⟩
    clear hK K
    repeat (first|refine nx ?_|(refine z3 fun K hK=>?_;simp only [go_sem,d1,d2,d3,List.length_nil];(repeat (first|(refine⟨_,.lent (hf:=h38) (hd:=rfl) (hr:=rfl),?_⟩;simp only [go_sem,d1,d2,d3,List.length_nil])|(refine⟨_,.given (hf:=h38) (hd:=rfl) (ha:=rfl),?_⟩;simp only [go_sem,d1,d2,d3,List.length_nil])));apply hK;clear hK K))
    refine z4 (by rfl) ?_
    repeat (first|refine nx ?_|(refine z3 fun K hK=>?_;simp only [go_sem,d3];apply hK;clear hK K))
    refine z7 (by rfl) ?_
    repeat (first|refine nx ?_|(refine z3 fun K hK=>?_;simp only [go_sem];(repeat (first|(refine⟨_,.lent (hf:=h14) (hd:=rfl) (hr:=rfl),?_⟩;simp only [go_sem])|(refine⟨_,.given (hf:=h14) (hd:=rfl) (ha:=rfl),?_⟩;simp only [go_sem])));apply hK;clear hK K))
    simp only [go_sem]
   ·rw [k1] at h36
    rw [k2] at h38
    rw [q1] at h22
    rw [q2] at h37
    dsimp only at h36 h38
    have d1:(c != c)=false:=by simp
    have d2:(c == c)=true:=by simp
    rw [Net.cells] at *
    rw [SearchT.row] at *
    rw [Party.cells] at h36 h38
    refine z10 83 Tryd.call10 Tryd.func10 rfl (by decide) fun J=>?_
    simp only [go_sem,St.start,Tryd.ntmps10,Tryd.results10,Net.cells,SearchT.row]
    repeat (first|refine nx ?_|(refine z3 fun K hK=>?_;simp only [go_sem];(repeat (first|(refine⟨_,.lent (hf:=h22) (hd:=rfl) (hr:=rfl),?_⟩;simp only [go_sem])|(refine⟨_,.lent (hf:=h37) (hd:=rfl) (hr:=rfl),?_⟩;simp only [go_sem])|(refine⟨_,.given (hf:=h22) (hd:=rfl) (ha:=rfl),?_⟩;simp only [go_sem])|(refine⟨_,.given (hf:=h37) (hd:=rfl) (ha:=rfl),?_⟩;simp only [go_sem])));apply hK;clear hK K))
    refine z4 (by rfl) ?_
    repeat refine nx ?_
    refine z185 [27,31] (by kernel_rfl) (by kernel_rfl) fun K hK=>?_
    simp only [go_sem,hrb,hsl,hcb,hcs,hhb,hhs,List.nil_append,List.length_nil,List.length_map,Nat.zero_add]
    refine⟨_,.fn (hf:=h19) (hd:=rfl) (hr:=.inr rfl),?_⟩
    simp only [go_sem,hrb,hsl,hcb,hcs,hhb,hhs,List.nil_append,List.length_nil,List.length_map,Nat.zero_add]
    refine⟨_,.fn (hf:=h36) (hd:=rfl) (hr:=.inr rfl),?_⟩
    simp only [go_sem]
    refine⟨by kernel_rfl,hK _ ?_⟩
    clear hK K
    repeat (first|refine nx ?_|(refine z3 fun K hK=>?_;simp only [go_sem,d1];(repeat (first|(refine⟨_,.lent (hf:=h38) (hd:=rfl) (hr:=rfl),?_⟩;simp only [go_sem,d1])|(refine⟨_,.given (hf:=h38) (hd:=rfl) (ha:=rfl),?_⟩;simp only [go_sem,d1])));apply hK;clear hK K))
    refine z4 (by rfl) ?_
    repeat (first|refine nx ?_|(refine z3 fun K hK=>?_;simp only [go_sem];apply hK;clear hK K))
    refine z4 (by rfl) ?_
    repeat (first|refine nx ?_|(refine z3 fun K hK=>?_;simp only [go_sem,d2];(repeat (first|(refine⟨_,.lent (hf:=h32) (hd:=rfl) (hr:=rfl),?_⟩;simp only [go_sem,d2])|(refine⟨_,.lent (hf:=h14) (hd:=rfl) (hr:=rfl),?_⟩;simp only [go_sem,d2])|(refine⟨_,.given (hf:=h32) (hd:=rfl) (ha:=rfl),?_⟩;simp only [go_sem,d2])|(refine⟨_,.given (hf:=h14) (hd:=rfl) (ha:=rfl),?_⟩;simp only [go_sem,d2])));apply hK;clear hK K))
    simp only [go_sem]
end Go.Ab
namespace Go.Ab
open Go.RowKit Go.Proofs Go.ChangeShapes Go.WideShapes Go.Proofs.YtfkbbaagifpjpaaDoor
set_option linter.unusedVariables false
set_option maxRecDepth 100000
def spotS:List Sh:=[iS,iS,iS]
def searchS:List Sh:=[iS,iS,iS,iS,.sl [iS],.sl spotS,iS]
theorem z1272 {N:Nat} {r:List DV} (h:Sh.fitsL N spotS r):∃ x:SpotT,r=x.row∧True:=by
 simp only [spotS,iS,Sh.fitsL,Sh.fits] at h
 obtain⟨_,_,rfl,⟨a,rfl,_⟩,_,_,rfl,⟨b,rfl,_⟩,_,_,rfl,⟨c,rfl,_⟩,rfl⟩:=h
 exact⟨⟨a,b,c⟩,rfl,trivial⟩
theorem z1116 {N:Nat} (hN:N<2 ^ 30) {r:List DV} (h:Sh.fitsL N searchS r):∃ x:SearchT,r=x.row∧x.bases.length<2 ^ 30∧x.spots.length<2 ^ 30:=by
 simp only [searchS] at h
 simp only [iS,Sh.fitsL,Sh.fits] at h
 obtain⟨_,_,rfl,⟨a,rfl,_⟩,_,_,rfl,⟨b,rfl,_⟩,_,_,rfl,⟨c,rfl,_⟩,_,_,rfl,⟨d,rfl,_⟩,_,_,rfl,⟨rows,rfl,hl,hr⟩,_,_,rfl,⟨rows2,rfl,hl2,hr2⟩,_,_,rfl,⟨e,rfl,_⟩,rfl⟩:=h
 obtain⟨l,rfl,_⟩:=z347 (row:=fun i:Int=>[DV.i i]) (fun r h=>z1338 (N:=N) (by simp only [iS,Sh.fitsL,Sh.fits];exact hr r h))
 obtain⟨S,rfl,_⟩:=z347 (fun r h=>z1272 (hr2 r h))
 have e1:l.length≤N:=by simpa using hl
 have e2:S.length≤N:=by simpa using hl2
 exact⟨⟨⟨a,b,⟨c,d⟩⟩,l,S,e⟩,rfl,by show l.length<2 ^ 30;omega,by show S.length<2 ^ 30;omega⟩
theorem z1203:shapes Tryd.prog 20 56=some searchS:=by kernel_rfl
theorem z1213:Rd 56 (fun x=>∃ y:SearchT,x=.agg y.row∧y.bases.length<2 ^ 30∧y.spots.length<2 ^ 30) :=
 ⟨by kernel_rfl,of_decide_eq_true (by kernel_rfl),fun H enc w base v d ps hok h hd=>by
  obtain⟨e0,hf0,r0⟩:=z976 z1203 (by decide) h hd
  obtain⟨x,rfl,hx⟩:=z1116 (by decide) hf0
  exact⟨_,⟨x,rfl,hx⟩,r0⟩⟩
abbrev aS:TypeId × (DV→Prop):=(56,fun x=>∃ y:SearchT,x=.agg y.row∧y.bases.length<2 ^ 30∧y.spots.length<2 ^ 30)
end Go.Ab
