/- A walk engine over abstract states, and the contracts of the functions that the statement reaches: part 5. -/
import Derived.Test.YtfkbbaagifpjpaaDoorWd
set_option linter.unusedVariables false
set_option linter.unusedSimpArgs false
set_option linter.unnecessarySimpa false
namespace Go.Ab
open Go.RowKit Go.Proofs
set_option maxHeartbeats 8000000
set_option maxRecDepth 20000
attribute [local irreducible] WalkL Walk
def fullN (S:List SpotT):Nat:=2 ^ S.length - 1
def bestP (F:Mat) (S:List SpotT) (b:Nat):(Int × Int) × MemB:=bestM F S 5 b (fullN S) ([],0)
def orderP (F:Mat) (S:List SpotT) (b:Nat):List Int:=(orderM F S 5 b (fullN S) (bestP F S b).2).1
def planC (n:Net) (p:Party) (F:Mat) (base:Int) (S:List SpotT):List Int × Int × Int :=
 if readyE n p [base] S≠0 then ([],0,readyE n p [base] S) else if (bestP F S base.toNat).1.1 ≥ farW then ([],0,3) else (orderP F S base.toNat,(bestP F S base.toNat).1.1,0)
def planD (r:List Int × Int × Int):DV:=.tup [.sl (intRows r.1),.i r.2.1,.i r.2.2]
def OrdP (F:Mat) (S:List SpotT) (b:Nat):Prop:=(bestP F S b).1.1<farW→OrdOk F S 5 b (fullN S) (bestP F S b).2
theorem z584 {S:List SpotT} (h:S.length≤5):fullN S<32:=by
 have:∀ k:Nat,k≤5→2 ^ k - 1<32:=by decide
 exact this _ h
theorem z317:∀ k:Nat,k≤5→∀ i ∈ elems (2 ^ k - 1),i<k:=by decide +kernel
theorem z19:∀ s:Nat,s<32→(elems s).length≤5:=by decide +kernel
theorem z116 {n:Net} {p:Party} {bases:List Int} {S:List SpotT} (h:readyE n p bases S=0):n.Good∧p.Good∧(1≤S.length∧S.length≤8)∧(∀ s ∈ S,(0≤s.pl∧s.pl<n.places)∧(0≤s.wt∧s.wt≤100)∧(0≤s.se∧s.se≤600))∧(1≤bases.length∧bases.length≤3)∧∀ b ∈ bases,0≤b∧b<n.places:=by
 rw [readyE] at h
 split at h
 ·rename_i hc;exact absurd h hc
 ·rename_i hc
  have hc:=Classical.not_not.1 hc
  obtain⟨g1,g2⟩:=z217.1 hc
  split at h
  ·cases h
  ·rename_i hb
   have hb:badTeams n bases S=false:=by simpa using hb
   simp only [badTeams,Bool.or_eq_false_iff,Bool.not_eq_false',z22,List.any_eq_false] at hb
   obtain⟨h1,h2,h3,h4⟩:=hb
   refine⟨g1,g2,by omega,fun s hs=>?_,by omega,fun b hb=>?_⟩
   ·have h5:badSpot n s=false:=by simpa using h2 s hs
    simp only [badSpot,Bool.or_eq_false_iff,Bool.not_eq_false',z22] at h5
    omega
   ·have h5:badBase n b=false:=by simpa using h4 b hb
    simp only [badBase,Bool.not_eq_false',z22] at h5
    omega
theorem z1442 (n:Net) (p:Party) (F:Mat) (base:Int) (S:List SpotT) (hs:n.Small) (hl:S.length≤5∨readyE n p [base] S≠0) (hl2:S.length<2 ^ 30) (hF:readyE n p [base] S=0→matM n.places.toNat (allM n p)=matM n.places.toNat F)
  (ho:readyE n p [base] S=0→OrdP F S base.toNat):Fn Tryd.prog 21 [.agg n.cells,.agg p.cells,.i base,.sl (S.map SpotT.row)] (planD (planC n p F base S)):=by
 have h53:=z1412 n p [base] S hs (by simp) hl2
 rw [planC,planD]
 by_cases he:readyE n p [base] S=0
 ·obtain⟨hg,hp,hlen,hsp,_,hbase⟩:=z116 he
  have hb:=hbase base (by simp)
  have hpl:=hg.places
  have hl5:S.length≤5:=hl.resolve_right fun h=>h he
  obtain⟨b,rfl⟩:∃ b:Nat,base=b:=⟨base.toNat,by omega⟩
  have hbm:b<n.places.toNat:=by omega
  have hS:SpotsOk n.places.toNat S:=⟨hl5,fun s hs=>by have:=(hsp s hs).1;omega⟩
  have hf32:=z584 hl5
  have hfi:∀ i ∈ elems (fullN S),i<S.length:=z317 _ hl5
  have ho':=ho he
  rw [readyD,he,if_pos rfl,rescN,rescC,hF he] at h53
  rw [if_neg (fun h=>h he)]
  rw [Int.toNat_natCast] at ho' ⊢
  have h54:=z1411 (rescC (.i n.places) (.sl (n.paths.map Path.row)) (timesD n p) n.places.toNat F S)
  have h56:=z1410 (.i n.places) (.sl (n.paths.map Path.row)) (timesD n p) n.places.toNat F S hl5
  have h55:=z1360 (.i n.places) (.sl (n.paths.map Path.row)) (timesD n p) n.places.toNat F S hS 5 (fullN S) b ([],0) hf32 (z19 _ hf32) hfi hbm
  have h57:=z1409 (.i n.places) (.sl (n.paths.map Path.row)) (timesD n p) n.places.toNat F S hS 5 (fullN S) b (bestP F S b).2 hf32 hfi hbm
  rw [orderP]
  unfold OrdP at ho'
  unfold bestP at ho' h57 ⊢
  obtain⟨R,hR⟩:∃ R,R=bestM F S 5 b (fullN S) ([],0):=⟨_,rfl⟩
  rw [← hR] at h55 ho' h57 ⊢
  obtain⟨⟨cost,r2⟩,es,c⟩:=R
  dsimp only at h55 ho' h57 ⊢
  rw [fullN] at h55 h57
  simp only [rescC,timesD,mapD,uD] at h53 h54 h55 h56 h57
  change FnG Tryd.prog 55 [.mp (some [.i64,.u64]) [] 0] [0] _ _ _ at h55
  refine z10 43 Tryd.call21 Tryd.func21 rfl (by decide) fun J=>?_
  simp only [go_sem,St.start,Tryd.ntmps21,Tryd.results21,Net.cells,Party.cells]
  repeat (first|refine nx ?_|(refine z3 fun K hK=>?_;simp only [go_sem];(repeat (first|(refine⟨_,.lent (hf:=h53) (hd:=rfl) (hr:=rfl),?_⟩;simp only [go_sem])|(refine⟨_,.given (hf:=h53) (hd:=rfl) (ha:=rfl),?_⟩;simp only [go_sem])));apply hK;clear hK K))
  refine z4 (by rfl) ?_
  repeat (first|refine nx ?_|(refine z3 fun K hK=>?_;simp only [go_sem];apply hK;clear hK K))
  refine z3 fun K hK=>?_
  simp only [go_sem]
  refine⟨_,.made (news:=[26]) (hf:=h54) (hd:=rfl) (hn:=by decide) (hl:=rfl) (hnew:=rfl) (hx:=rfl),?_⟩
  simp only [go_sem,List.map_cons,List.map_nil]
  apply hK
  clear hK K
  repeat (first|refine nx ?_|(refine z3 fun K hK=>?_;simp only [go_sem];apply hK;clear hK K))
  refine z8 (by kernel_rfl) (by kernel_rfl) fun K hK=>?_
  simp only [go_sem]
  refine⟨_,.fn (hf:=h56) (hd:=rfl) (hr:=.inl rfl),?_⟩
  simp only [go_sem]
  refine⟨_,.inPlace (n:=26) (hf:=h55) (hn:=rfl) (hb:=rfl) (hla:=rfl) (ha:=z49 (by repeat (first|exact trivial|refine And.intro ?_ ?_|exact z53 rfl|exact z42 rfl rfl))) (hx:=by first|decide|simp [AV.refsAll,AV.refs,AV.refs.AV.refss]),?_⟩
  simp only [go_sem]
  refine⟨by kernel_rfl,hK _ ?_⟩
  clear hK K
  by_cases hc:cost ≥ farW
  ·have hd:decide (cost ≥ 1099511627776)=true:=by simpa [farW] using hc
   rw [if_pos hc]
   repeat (first|refine nx ?_|(refine z3 fun K hK=>?_;simp only [go_sem,hd];apply hK;clear hK K))
   refine z7 rfl ?_
   repeat (first|refine nx ?_|(refine z3 fun K hK=>?_;simp only [go_sem];apply hK;clear hK K))
   simp only [go_sem,intRows,List.map_nil]
  ·have hd:decide (cost ≥ 1099511627776)=false:=by simpa [farW] using hc
   rw [if_neg hc]
   have h57o:=h57 (by have:=ho' (by omega);rwa [fullN] at this) (by decide)
   obtain⟨O,hO⟩:∃ O,O=orderM F S 5 b (2 ^ S.length - 1) (es,c):=⟨_,rfl⟩
   rw [fullN,← hO]
   rw [← hO] at h57o
   obtain⟨ol,es2,c2⟩:=O
   dsimp only at h57o ⊢
   have h57d:=h57o.deepMp (d:=.sl (intRows ol)) rfl (by simp [AV.refs]) (by simp [AV.refs])
   repeat (first|refine nx ?_|(refine z3 fun K hK=>?_;simp only [go_sem,hd];apply hK;clear hK K))
   refine z4 rfl ?_
   repeat (first|refine nx ?_|(refine z3 fun K hK=>?_;simp only [go_sem];apply hK;clear hK K))
   refine z8 (by kernel_rfl) (by kernel_rfl) fun K hK=>?_
   simp only [go_sem]
   refine⟨_,.fn (hf:=h56) (hd:=rfl) (hr:=.inl rfl),?_⟩
   simp only [go_sem]
   refine⟨_,.inPlace (n:=26) (hf:=h57d) (hn:=rfl) (hb:=rfl) (hla:=rfl) (ha:=z49 (by repeat (first|exact trivial|refine And.intro ?_ ?_|exact z53 rfl|exact z42 rfl rfl))) (hx:=by first|decide|simp [AV.refsAll,AV.refs,AV.refs.AV.refss]),?_⟩
   simp only [go_sem]
   refine⟨by kernel_rfl,hK _ ?_⟩
   clear hK K
   repeat (first|refine nx ?_|(refine z3 fun K hK=>?_;simp only [go_sem];apply hK;clear hK K))
   simp only [go_sem]
 ·have hne:(readyE n p [base] S != 0)=true:=by simpa using he
  rw [if_pos he]
  rw [readyD,if_neg he] at h53
  change Fn Tryd.prog 53 [_,_,.sl [[.i base]],_] _ at h53
  refine z10 43 Tryd.call21 Tryd.func21 rfl (by decide) fun J=>?_
  simp only [go_sem,St.start,Tryd.ntmps21,Tryd.results21,Net.cells,Party.cells]
  rw [Net.cells,Party.cells] at h53
  repeat (first|refine nx ?_|(refine z3 fun K hK=>?_;simp only [go_sem];(repeat (first|(refine⟨_,.lent (hf:=h53) (hd:=rfl) (hr:=rfl),?_⟩;simp only [go_sem])|(refine⟨_,.given (hf:=h53) (hd:=rfl) (ha:=rfl),?_⟩;simp only [go_sem])));apply hK;clear hK K))
  refine z5 rfl (fun _=>?_) (fun hc=>by rw [hne] at hc;cases hc)
  repeat (first|refine nx ?_|(refine z3 fun K hK=>?_;simp only [go_sem];apply hK;clear hK K))
  simp only [go_sem,intRows,List.map_nil]
end Go.Ab
namespace Go.Ab
open Go.RowKit Go.Proofs
set_option maxRecDepth 100000
def getL (W:List (List Int)) (a b:Nat):Int:=(W.getD a []).getD b 0
def setLL (W:List (List Int)) (a b:Nat) (v:Int):List (List Int):=W.set a ((W.getD a []).set b v)
def relaxLL (p:Party) (W:List (List Int)) (w:Nat × Path):List (List Int):=setLL W w.2.frm.toNat w.2.to.toNat (min (getL W w.2.frm.toNat w.2.to.toNat) (spanW w.2 p).hi)
def viaLL (v:Nat) (W:List (List Int)) (a b:Nat):List (List Int):=setLL W a b (min (getL W a b) (wr (getL W a v + getL W v b)))
def allLL (n:Net) (p:Party):List (List Int) :=
 let m:=n.places.toNat
 (List.range m).foldl (fun F v=>(List.range m).foldl (fun F a=>(List.range m).foldl (fun F b=>viaLL v F a b) F) F) ((canL n p).foldl (relaxLL p) (matM m zeroM))
theorem z316 {m:Nat} {F:Mat} {a b:Nat} (ha:a<m) (hb:b<m):getL (matM m F) a b=F a b:=by
 simp only [getL,List.getD_eq_getElem?_getD,z73 ha,Option.getD_some,z55 hb]
theorem z707 {m:Nat} {F:Mat} {a b:Nat} (ha:a<m) (v:Int):setLL (matM m F) a b v=matM m (updM F a b v):=by
 simp only [setLL,List.getD_eq_getElem?_getD,z73 ha,Option.getD_some,z239]
theorem z1124 {m:Nat} {p:Party} {F:Mat} {w:Nat × Path} (ha:w.2.frm.toNat<m) (hb:w.2.to.toNat<m):relaxLL p (matM m F) w=matM m (relaxM p F w):=by
 rw [relaxLL,z316 ha hb,z707 ha,relaxM]
theorem z1270 {m v a b:Nat} {F:Mat} (hv:v<m) (ha:a<m) (hb:b<m):viaLL v (matM m F) a b=matM m (viaM v F a b):=by
 rw [viaLL,z316 ha hb,z316 ha hv,z316 hv hb,z707 ha,viaM]
theorem z250 {α:Type} {m:Nat} (f:List (List Int)→α→List (List Int)) (g:Mat→α→Mat):∀ (l:List α) (F:Mat),(∀ F,∀ x ∈ l,f (matM m F) x=matM m (g F x))→l.foldl f (matM m F)=matM m (l.foldl g F)
 | [],F,_=>rfl
 | x::l,F,h=>by
  rw [List.foldl_cons,h F x (by simp),List.foldl_cons]
  exact z250 f g l _ fun F y hy=>h F y (by simp [hy])
theorem z1310 {n:Net} (p:Party) (hg:n.Good):allLL n p=matM n.places.toNat (allM n p):=by
 rw [allLL,allM]
 rw [z250 (relaxLL p) (relaxM p) _ _ (fun F w hw=>by
  obtain⟨_,h2,_⟩:=z107 hw
  have:=hg.path w.2 (List.mem_of_getElem? h2)
  exact z1124 (by have:=this.frm;omega) (by have:=this.to;omega))]
 refine z250 _ _ _ _ fun F v hv=>?_
 refine z250 _ _ _ _ fun F a ha=>?_
 refine z250 _ _ _ _ fun F b hb=>?_
 exact z1270 (List.mem_range.1 hv) (List.mem_range.1 ha) (List.mem_range.1 hb)
def exM:Missed:=⟨exP,0,300,600,30,[⟨420,2,true⟩,⟨500,4,false⟩,⟨560,9,true⟩]⟩
end Go.Ab
namespace Go.Ab
open Go.RowKit Go.Proofs
set_option maxHeartbeats 8000000
set_option maxRecDepth 20000
attribute [local irreducible] WalkL Walk
def exSpots:List (List DV):=[[.i 3,.i 50,.i 60],[.i 1,.i 30,.i 20],[.i 2,.i 20,.i 40]]
theorem z1432:Fn Tryd.prog 46 [] (.tup [.agg exN.cells,.agg exM.row,.sl exSpots]):=by
 have h49:=z1423
 refine z10 20 Tryd.call46 Tryd.func46 rfl (by decide) fun J=>?_
 simp only [go_sem,St.start,Tryd.ntmps46,Tryd.results46,]
 repeat (first|refine nx ?_|(refine z3 fun K hK=>?_;simp only [go_sem,exN,exP,Net.cells,Party.cells,Path.row,Span.row];(repeat (first|(refine⟨_,.lent (hf:=h49) (hd:=rfl) (hr:=rfl),?_⟩;simp only [go_sem,exN,exP,Net.cells,Party.cells,Path.row,Span.row])|(refine⟨_,.given (hf:=h49) (hd:=rfl) (ha:=rfl),?_⟩;simp only [go_sem,exN,exP,Net.cells,Party.cells,Path.row,Span.row])));apply hK;clear hK K))
 refine z8 (by kernel_rfl) (by kernel_rfl) fun K hK=>?_
 simp only [go_sem,exN,exP,Net.cells,Party.cells,Path.row,Span.row]
 refine⟨by kernel_rfl,hK _ ?_⟩
 clear hK K
 repeat (first|refine nx ?_|(refine z3 fun K hK=>?_;simp only [go_sem];apply hK;clear hK K))
 simp only [go_sem]
 rfl
end Go.Ab
namespace Go.Ab
open Go.RowKit Go.Proofs
set_option maxHeartbeats 4000000
set_option maxRecDepth 20000
attribute [local irreducible] WalkL Walk
def staysF (cl:List Clue) (place top:Int):Nat→Int→List Int
 | 0,_=>[]
 | f + 1,m=>if m≤top∧atB cl place m=true then m::staysF cl place top f (m + 1) else []
def staysL (x:Missed) (place m most:Int):List Int:=staysF x.clues place (min most x.now) (min most x.now - m + 1).toNat m
theorem z375 {α:Type} {l:List α} {j:Nat} {x:α} {r:List α} (h:l.drop j=x::r):l[j]?=some x∧l.drop (j + 1)=r∧j<l.length:=by
 have h1:l[j]?=some x:=by
  have:=congrArg (fun l=>l[0]?) h
  simpa using this
 refine⟨h1,?_,(List.getElem?_eq_some_iff.1 h1).1⟩
 have:=congrArg (List.drop 1) h
 simpa [Nat.add_comm] using this
theorem z158 {α:Type} {l:List α} {j:Nat} (h:l.drop j=[]) (hj:j≤l.length):j=l.length:=by
 have:=List.drop_eq_nil_iff.1 h
 omega
def minRows (l:List Int):List (List DV):=l.map fun m=>[.i m]
theorem z354 {l:List Int} {j:Nat} {m:Int} (h:l[j]?=some m):(minRows l)[j]?=some [.i m]:=by simp [minRows,h]
def trkB (n:Net) (x:Missed):List DV:=[.ptr (huntC n x) 0]
theorem z1297 (n:Net) (x:Missed) (place m0 most:Int) (hp:0≤place) (hm:0≤m0∧m0≤2 ^ 40) (hn:x.now≤2 ^ 40) (hl:x.clues.length<2 ^ 62) :
  IterB Tryd.prog 102 (fun b=>[.ptr [.i place,.i m0] 0,.ptr [.i most] 0,.ptr [.raw b 0] 0]) ((trkB n x).map some) (minRows (staysL x place m0 most)):=by
 refine z490 40 Tryd.call102 Tryd.func102 rfl rfl fun l J B pb hS hG hP=>?_
 simp only [go_sem,St.start,Tryd.ntmps102]
 repeat (first|refine nx ?_|(refine z3 fun K hK=>?_;simp only [go_sem];apply hK;clear hK K))
 obtain⟨L,hL⟩:∃ L,L=staysL x place m0 most:=⟨_,rfl⟩
 obtain⟨top,htop⟩:∃ top,top=min most x.now:=⟨_,rfl⟩
 rw [← hL]
 have hL0:L=staysF x.clues place top (top - m0 + 1).toNat m0:=by rw [hL,staysL,htop]
 refine z79 (fun (j:Nat)=>[(5,.d (.i (m0 + j)))]) (fun _=>[]) (fun k j=>k=some j∧j≤L.length∧L.drop j=staysF x.clues place top ((top - m0 + 1).toNat - j) (m0 + j)) (fun j=>(top - m0 + 1).toNat + 1 - j) 0 ?_ ⟨rfl,Nat.zero_le _,by simpa using hL0⟩ ?_
 ·simp only [go_sem]
  refine weA ?_ ?_ <;> simp
 ·rintro k j ⟨rfl,hj,hd⟩
  simp only [go_sem]
  have hc9:(huntC n x)[9]?=some (.i x.now):=rfl
  repeat refine nx ?_
  have h74:=z1269 n x place (m0 + j) hp hl
  by_cases h1:m0 + (j:Int)≤min most x.now
  ·have hb1:decide (m0 + (j:Int)≤min most x.now)=true:=by simpa using h1
   have hf1:(top - m0 + 1).toNat - j=((top - m0 + 1).toNat - (j + 1)) + 1:=by omega
   have hw:IntKind.i64.wrap (m0 + (j:Int) + 1)=m0 + ((j + 1:Nat):Int):=by rw [z9 (by omega)];omega
   rw [hf1,staysF] at hd
   by_cases h2:atB x.clues place (m0 + j)=true
   ·rw [if_pos ⟨by omega,h2⟩] at hd
    obtain⟨hg,hd2,hlt⟩:=z375 hd
    refine z184 hS hG hP 25 (by kernel_rfl) (by kernel_rfl) (by kernel_rfl) (by decide) rfl fun K hK=>?_
    simp only [go_sem,trkB,hc9,hb1]
    refine⟨_,.fn (hf:=h74) (hd:=rfl) (hr:=.inl rfl),?_⟩
    simp only [go_sem,hb1,h2]
    refine⟨by kernel_rfl,?_⟩
    refine⟨rfl,j,[.i (m0 + j)],rfl,rfl,by rw [← hL];exact z354 hg,?_,?_⟩
    ·simp only [go_sem]
     refine hK _ _ ?_
     clear hK K
     refine z7 rfl ?_
     repeat (first|refine nx ?_|(refine z3 fun K hK=>?_;simp only [go_sem,hw];apply hK;clear hK K))
     refine⟨j + 1,?_,⟨rfl,hlt,by rw [hd2];congr 1;omega⟩,by omega⟩
     refine weA ?_ ?_ <;> simp
    ·simp only [go_sem]
     refine hK _ _ ?_
     clear hK K
     refine z4 rfl ?_
     repeat (first|refine nx ?_|(refine z3 fun K hK=>?_;simp only [go_sem];apply hK;clear hK K))
     exact⟨trivial,.inr rfl⟩
   ·rw [if_neg (fun hc=>h2 hc.2)] at hd
    have h2:atB x.clues place (m0 + j)=false:=by simpa using h2
    have he:=z158 hd hj
    refine z184 hS hG hP 25 (by kernel_rfl) (by kernel_rfl) (by kernel_rfl) (by decide) rfl fun K hK=>?_
    simp only [go_sem,trkB,hc9,hb1]
    refine⟨_,.fn (hf:=h74) (hd:=rfl) (hr:=.inl rfl),?_⟩
    simp only [go_sem,hb1,h2]
    refine⟨by kernel_rfl,?_⟩
    refine hK _ _ ?_
    clear hK K
    refine z4 rfl ?_
    repeat (first|refine nx ?_|(refine z3 fun K hK=>?_;simp only [go_sem];apply hK;clear hK K))
    exact⟨trivial,.inl (by rw [he,minRows,List.length_map])⟩
  ·have hb1:decide (m0 + (j:Int)≤min most x.now)=false:=by simpa using h1
   have he:j=L.length:=by
    refine z158 ?_ hj
    rw [hd]
    cases hf:(top - m0 + 1).toNat - j with
    | zero=>rfl
    | succ f=>rw [staysF,if_neg (fun hc=>h1 (by rw [← htop];exact hc.1))]
   refine z184 hS hG hP 25 (by kernel_rfl) (by kernel_rfl) (by kernel_rfl) (by decide) rfl fun K hK=>?_
   simp only [go_sem,trkB,hc9,hb1]
   refine⟨by kernel_rfl,?_⟩
   refine hK _ _ ?_
   clear hK K
   refine z4 rfl ?_
   repeat (first|refine nx ?_|(refine z3 fun K hK=>?_;simp only [go_sem];apply hK;clear hK K))
   exact⟨trivial,.inl (by rw [he,minRows,List.length_map])⟩
theorem z1155 (n:Net) (x:Missed) (a b:DV) (place m0 most:Int) (hp:0≤place) (hm:0≤m0∧m0≤2 ^ 40) (hn:x.now≤2 ^ 40) (hl:x.clues.length<2 ^ 62) :
  IterE Tryd.prog 102 [] (fun l=>[.d (.yld l),.d (.ptr [.i place,.i m0] 0),.d (.ptr [.i most] 0),.d (.ptr [.ptr [.ptr (huntC n x) 0,a,b] 0] 0)]) (minRows (staysL x place m0 most)):=by
 refine z275 40 Tryd.call102 Tryd.func102 rfl rfl fun l J hG=>?_
 simp only [go_sem,St.startG,Tryd.ntmps102,Tryd.results102,List.map_cons,List.map_nil,List.range_succ,  ]
 repeat (first|refine nx ?_|(refine z3 fun K hK=>?_;simp only [go_sem];apply hK;clear hK K))
 obtain⟨L,hL⟩:∃ L,L=staysL x place m0 most:=⟨_,rfl⟩
 obtain⟨top,htop⟩:∃ top,top=min most x.now:=⟨_,rfl⟩
 rw [← hL]
 have hL0:L=staysF x.clues place top (top - m0 + 1).toNat m0:=by rw [hL,staysL,htop]
 refine z79 (fun (j:Nat)=>[(5,.d (.i (m0 + j)))]) (fun _=>[]) (fun k j=>k=some j∧j≤L.length∧L.drop j=staysF x.clues place top ((top - m0 + 1).toNat - j) (m0 + j)) (fun j=>(top - m0 + 1).toNat + 1 - j) 0 ?_ ⟨rfl,Nat.zero_le _,by simpa using hL0⟩ ?_
 ·simp only [go_sem]
  refine weA ?_ ?_ <;> simp
 ·rintro k j ⟨rfl,hj,hd⟩
  simp only [go_sem]
  have hc9:(huntC n x)[9]?=some (.i x.now):=rfl
  repeat refine nx ?_
  have h74:=z1269 n x place (m0 + j) hp hl
  by_cases h1:m0 + (j:Int)≤min most x.now
  ·have hb1:decide (m0 + (j:Int)≤min most x.now)=true:=by simpa using h1
   have hf1:(top - m0 + 1).toNat - j=((top - m0 + 1).toNat - (j + 1)) + 1:=by omega
   have hw:IntKind.i64.wrap (m0 + (j:Int) + 1)=m0 + ((j + 1:Nat):Int):=by rw [z9 (by omega)];omega
   rw [hf1,staysF] at hd
   by_cases h2:atB x.clues place (m0 + j)=true
   ·rw [if_pos ⟨by omega,h2⟩] at hd
    obtain⟨hg,hd2,hlt⟩:=z375 hd
    refine z82 hG [] 25 (by kernel_rfl) (by kernel_rfl) (by kernel_rfl) (by decide) fun K hK=>?_
    simp only [go_sem,hc9,hb1]
    refine⟨_,.fn (hf:=h74) (hd:=rfl) (hr:=.inl rfl),?_⟩
    simp only [go_sem,hb1,h2]
    refine⟨by kernel_rfl,?_⟩
    refine⟨rfl,j,[.i (m0 + j)],rfl,rfl,rfl,by rw [← hL];exact z354 hg,?_,?_⟩
    ·simp only [go_sem]
     refine hK _ _ ?_
     clear hK K
     refine z7 rfl ?_
     repeat (first|refine nx ?_|(refine z3 fun K hK=>?_;simp only [go_sem,hw];apply hK;clear hK K))
     refine⟨j + 1,?_,⟨rfl,hlt,by rw [hd2];congr 1;omega⟩,by omega⟩
     refine weA ?_ ?_ <;> simp
    ·simp only [go_sem]
     refine hK _ _ ?_
     clear hK K
     refine z4 rfl ?_
     repeat (first|refine nx ?_|(refine z3 fun K hK=>?_;simp only [go_sem];apply hK;clear hK K))
     exact⟨trivial,.inr rfl⟩
   ·rw [if_neg (fun hc=>h2 hc.2)] at hd
    have h2:atB x.clues place (m0 + j)=false:=by simpa using h2
    have he:=z158 hd hj
    refine z82 hG [] 25 (by kernel_rfl) (by kernel_rfl) (by kernel_rfl) (by decide) fun K hK=>?_
    simp only [go_sem,hc9,hb1]
    refine⟨_,.fn (hf:=h74) (hd:=rfl) (hr:=.inl rfl),?_⟩
    simp only [go_sem,hb1,h2]
    refine⟨by kernel_rfl,?_⟩
    refine hK _ _ ?_
    clear hK K
    refine z4 rfl ?_
    repeat (first|refine nx ?_|(refine z3 fun K hK=>?_;simp only [go_sem];apply hK;clear hK K))
    exact⟨trivial,.inl (by rw [he,minRows,List.length_map])⟩
  ·have hb1:decide (m0 + (j:Int)≤min most x.now)=false:=by simpa using h1
   have he:j=L.length:=by
    refine z158 ?_ hj
    rw [hd]
    cases hf:(top - m0 + 1).toNat - j with
    | zero=>rfl
    | succ f=>rw [staysF,if_neg (fun hc=>h1 (by rw [← htop];exact hc.1))]
   refine z82 hG [] 25 (by kernel_rfl) (by kernel_rfl) (by kernel_rfl) (by decide) fun K hK=>?_
   simp only [go_sem,hc9,hb1]
   refine⟨by kernel_rfl,?_⟩
   refine hK _ _ ?_
   clear hK K
   refine z4 rfl ?_
   repeat (first|refine nx ?_|(refine z3 fun K hK=>?_;simp only [go_sem];apply hK;clear hK K))
   exact⟨trivial,.inl (by rw [he,minRows,List.length_map])⟩
end Go.Ab
namespace Go.Ab
open Go.RowKit Go.Proofs
set_option maxHeartbeats 4000000
set_option maxRecDepth 20000
attribute [local irreducible] WalkL Walk
def walksF (cl:List Clue):Nat→Int→List (Int × Bool)
 | 0,_=>[]
 | f + 1,m=>(m,onB8 cl m)::if onB8 cl m=true then walksF cl f (m + 1) else []
def walksL (x:Missed) (leave:Int):List (Int × Bool):=walksF x.clues (x.now - leave).toNat (leave + 1)
def wkRows (l:List (Int × Bool)):List (List DV):=l.map fun m=>[.i m.1,.bool m.2]
theorem z980 {l:List (Int × Bool)} {j:Nat} {m:Int × Bool} (h:l[j]?=some m):(wkRows l)[j]?=some [.i m.1,.bool m.2]:=by simp [wkRows,h]
theorem z1296 (n:Net) (x:Missed) (leave:Int) (hm:0≤leave∧leave≤2 ^ 40) (hn:x.now≤2 ^ 40) (hl:x.clues.length<2 ^ 62) :
  IterB Tryd.prog 103 (fun b=>[.ptr [.i leave] 0,.ptr [.raw b 0] 0]) ((trkB n x).map some) (wkRows (walksL x leave)):=by
 refine z490 40 Tryd.call103 Tryd.func103 rfl rfl fun l J B pb hS hG hP=>?_
 have hw0:IntKind.i64.wrap (leave + 1)=leave + 1 + ((0:Nat):Int):=by rw [z9 (by omega)];omega
 simp only [go_sem,St.start,Tryd.ntmps103]
 repeat (first|refine nx ?_|(refine z3 fun K hK=>?_;simp only [go_sem,hw0];apply hK;clear hK K))
 obtain⟨L,hL⟩:∃ L,L=walksL x leave:=⟨_,rfl⟩
 rw [← hL]
 have hL0:L=walksF x.clues (x.now - leave).toNat (leave + 1):=by rw [hL,walksL]
 refine z79 (fun (j:Nat)=>[(4,.d (.i (leave + 1 + j)))]) (fun _=>[]) (fun k j=>k=some j∧j≤L.length∧L.drop j=walksF x.clues ((x.now - leave).toNat - j) (leave + 1 + j)) (fun j=>(x.now - leave).toNat + 1 - j) 0 ?_ ⟨rfl,Nat.zero_le _,by simpa using hL0⟩ ?_
 ·simp only [go_sem]
  refine weA ?_ ?_ <;> simp
 ·rintro k j ⟨rfl,hj,hd⟩
  have hc9:(huntC n x)[9]?=some (.i x.now):=rfl
  have h77:=z1379 n x (leave + 1 + j) hl
  have tr:trkB n x=[.ptr (huntC n x) 0]:=rfl
  simp only [go_sem]
  repeat refine nx ?_
  refine z164 hS hG hP fun K hK=>?_
  simp only [go_sem,tr,List.map_cons,List.map_nil,hc9]
  refine hK _ _ ?_
  clear hK K
  refine z5 rfl (fun hb=>?_) (fun hb=>?_)
  ·have hb1:leave + 1 + (j:Int)≤x.now:=by simpa using hb
   have hf1:(x.now - leave).toNat - j=((x.now - leave).toNat - (j + 1)) + 1:=by omega
   have hw:IntKind.i64.wrap (leave + 1 + (j:Int) + 1)=leave + 1 + ((j + 1:Nat):Int):=by rw [z9 (by omega)];omega
   rw [hf1,walksF] at hd
   obtain⟨hg,hd2,hlt⟩:=z375 hd
   repeat refine nx ?_
   refine z164 hS hG hP fun K hK=>?_
   simp only [go_sem,tr,List.map_cons,List.map_nil]
   refine⟨_,.lent (hf:=h77) (hd:=rfl) (hr:=rfl),?_⟩
   simp only [go_sem]
   refine hK _ _ ?_
   clear hK K
   repeat refine nx ?_
   refine z164 hS hG hP fun K hK=>?_
   simp only [go_sem,tr,List.map_cons,List.map_nil]
   refine⟨rfl,j,[.i (leave + 1 + j),.bool (onB8 x.clues (leave + 1 + j))],rfl,rfl,by rw [← hL];exact z980 hg,?_,?_⟩
   ·by_cases ho:onB8 x.clues (leave + 1 + j)=true
    ·rw [if_pos ho] at hd2
     simp only [go_sem,ho]
     refine hK _ _ ?_
     clear hK K
     refine z4 rfl ?_
     repeat (first|refine nx ?_|(refine z3 fun K hK=>?_;simp only [go_sem,hw];apply hK;clear hK K))
     refine⟨j + 1,?_,⟨rfl,hlt,by rw [hd2];congr 1;omega⟩,by omega⟩
     refine weA ?_ ?_ <;> simp
    ·rw [if_neg ho] at hd2
     have ho:onB8 x.clues (leave + 1 + j)=false:=by simpa using ho
     have he:=z158 hd2 hlt
     simp only [go_sem,ho]
     refine hK _ _ ?_
     clear hK K
     refine z7 rfl ?_
     repeat (first|refine nx ?_|(refine z3 fun K hK=>?_;simp only [go_sem];apply hK;clear hK K))
     exact⟨trivial,.inl (by rw [he,wkRows,List.length_map])⟩
   ·simp only [go_sem]
    refine hK _ _ ?_
    clear hK K
    refine z7 rfl ?_
    repeat (first|refine nx ?_|(refine z3 fun K hK=>?_;simp only [go_sem];apply hK;clear hK K))
    exact⟨trivial,.inr rfl⟩
  ·have he:j=L.length:=by
    have hb1:¬ leave + 1 + (j:Int)≤x.now:=by simpa using hb
    refine z158 ?_ hj
    rw [hd,show (x.now - leave).toNat - j=0 by omega]
    rfl
   repeat (first|refine nx ?_|(refine z3 fun K hK=>?_;simp only [go_sem];apply hK;clear hK K))
   exact⟨trivial,.inl (by rw [he,wkRows,List.length_map])⟩
end Go.Ab
namespace Go.Ab
open Go.RowKit Go.Proofs
set_option maxHeartbeats 4000000
set_option maxRecDepth 20000
attribute [local irreducible] WalkL Walk
structure Arv where
 pl:Int
 mi:Int
 fp:Int
 fm:Int
 pa:Int
 lv:Int
def Arv.spot (a:Arv):List DV:=[.i a.pl,.i a.mi]
def Arv.leg (a:Arv):List DV:=[.i a.fp,.i a.fm,.i a.pa,.i a.lv]
def keyS (p m:Int):MK:=.s [(.i64,p),(.i64,m)]
def entsA:List Arv→Nat→List (MK × DV × Nat)
 | [],_=>[]
 | a::l,j=>(keyS a.pl a.mi,.agg a.leg,j)::entsA l (j + 1)
def arvRows (A:List Arv):List (List DV):=A.map Arv.spot
def legsB (A:List Arv):Blk:=.mp (some [.i64,.i64]) (entsA A 0) A.length
def trkM (h:DV) (A:List Arv):List Blk:=[.box [.d h,.mp 1,.own 2],legsB A,.arr 114 2 (arvRows A)]
def sameS (a b:Arv):Bool:=b.pl == a.pl && b.mi == a.mi
def arriveA (cl:List Clue) (A:List Arv) (a:Arv):List Arv:=if A.any (sameS a) || !atB cl a.pl a.mi then A else A++[a]
theorem z505 (a:Arv):∀ (l:List Arv) (j:Nat),entsA (l++[a]) j=entsA l j++[(keyS a.pl a.mi,.agg a.leg,j + l.length)]
 | [],j=>by simp [entsA]
 | x::l,j=>by simp [entsA,z505 a l];omega
theorem z211 {a b c d:Int}:keyS a b=keyS c d↔a=c∧b=d:=by simp [keyS]
theorem z506 (a:Arv):∀ (l:List Arv) (j i:Nat),l.any (sameS a)=false→findE (entsA l j) (keyS a.pl a.mi) i=none
 | [],_,_,_=>rfl
 | b::l,j,i,h=>by
  simp only [List.any_cons,Bool.or_eq_false_iff] at h
  rw [entsA,findE,if_neg (by rw [z211];intro hc;simp [sameS,hc.1,hc.2] at h)]
  exact z506 a l _ _ h.2
theorem z504 (a:Arv):∀ (l:List Arv) (j i:Nat),l.any (sameS a)=true→∃ q b s,b ∈ l∧sameS a b=true∧findE (entsA l j) (keyS a.pl a.mi) i=some (q,.agg b.leg,s)
 | [],_,_,h=>by simp at h
 | b::l,j,i,h=>by
  by_cases hb:sameS a b=true
  ·refine⟨i,b,j,by simp,hb,?_⟩
   rw [entsA,findE,if_pos (by rw [z211];simp [sameS] at hb;exact⟨hb.1.symm,hb.2.symm⟩)]
  ·have hb:sameS a b=false:=by simpa using hb
   simp only [List.any_cons,hb,Bool.false_or] at h
   obtain⟨q,c,s,h1,h2,h3⟩:=z504 a l (j + 1) (i + 1) h
   refine⟨q,c,s,by simp [h1],h2,?_⟩
   rw [entsA,findE,if_neg (by rw [z211];intro hc;simp [sameS,hc.1,hc.2] at hb)]
   exact h3
theorem z1402 (T:List DV) (place m0 most:Int):Fn Tryd.prog 84 [.ptr T 0,.agg [.i place,.i m0],.i most] (.fn 102 [.ptr [.i place,.i m0] 0,.ptr [.i most] 0,.ptr [.ptr T 0] 0]):=by
 refine z10 8 Tryd.call84 Tryd.func84 rfl (by decide) fun J=>?_
 simp only [go_sem,St.start,Tryd.ntmps84,Tryd.results84]
 repeat (first|refine nx ?_|(refine z3 fun K hK=>?_;simp only [go_sem];apply hK;clear hK K))
 simp only [go_sem]
theorem z1355 (h:DV) (A:List Arv) (place m0 most:Int):FnG Tryd.prog 84 (trkM h A) [0] [.box 0 0,.d (.agg [.i place,.i m0]),.d (.i most)] (.fn 102 [.box 3 0,.box 4 0,.box 5 0]) (trkM h A++[.box [.d (.i place),.d (.i m0)],.box [.d (.i most)],.box [.box 0 0]]):=by
 simp only [trkM,legsB]
 refine z52 8 Tryd.call84 Tryd.func84 rfl (by decide) [4,5,3] [(0,0)] (by simp only [List.length_cons,List.length_nil];decide) (by kernel_rfl) fun J=>?_
 simp only [go_sem,St.startG,Tryd.ntmps84,Tryd.results84,List.map_cons,List.map_nil,List.range_succ,  ]
 repeat (first|refine nx ?_|(refine z3 fun K hK=>?_;simp only [go_sem];apply hK;clear hK K))
 simp only [go_sem,List.cons_append,List.nil_append]
theorem z1354 (h:DV) (A:List Arv) (leave:Int):FnG Tryd.prog 85 (trkM h A) [0] [.box 0 0,.d (.i leave)] (.fn 103 [.box 3 0,.box 4 0]) (trkM h A++[.box [.d (.i leave)],.box [.box 0 0]]):=by
 simp only [trkM,legsB]
 refine z52 6 Tryd.call85 Tryd.func85 rfl (by decide) [3,2] [(0,0)] (by simp only [List.length_cons,List.length_nil];decide) (by kernel_rfl) fun J=>?_
 simp only [go_sem,St.startG,Tryd.ntmps85,Tryd.results85,List.map_cons,List.map_nil,List.range_succ,  ]
 repeat (first|refine nx ?_|(refine z3 fun K hK=>?_;simp only [go_sem];apply hK;clear hK K))
 simp only [go_sem,List.cons_append,List.nil_append]
theorem z1403 (n:Net) (x:Missed) (A:List Arv) (a:Arv) (hp:0≤a.pl) (hl:x.clues.length<2 ^ 62) (hA:A.length<2 ^ 30) :
  FnG Tryd.prog 83 (trkM (.ptr (huntC n x) 0) A) [0] [.box 0 0,.d (.agg a.spot),.d (.agg a.leg)] (.tup []) (trkM (.ptr (huntC n x) 0) (arriveA x.clues A a)):=by
 have h74:=z1269 n x a.pl a.mi hp hl
 simp only [trkM,legsB,Arv.spot,Arv.leg]
 by_cases hk:A.any (sameS a)=true
 ·obtain⟨q,b,s,_,_,hf⟩:=z504 a A 0 0 hk
  rw [keyS] at hf
  have e:arriveA x.clues A a=A:=by rw [arriveA,hk];rfl
  rw [e]
  refine z52 46 Tryd.call83 Tryd.func83 rfl (by decide) [] [(0,0)] (by simp only [List.length_cons,List.length_nil];decide) (by kernel_rfl) fun J=>?_
  simp only [go_sem,St.startG,Tryd.ntmps83,Tryd.results83,List.map_cons,List.map_nil,List.range_succ,  ]
  repeat (first|refine nx ?_|(refine z3 fun K hK=>?_;simp only [go_sem,hf,Arv.leg];apply hK;clear hK K)|(refine z8 (by kernel_rfl) (by kernel_rfl) fun K hK=>?_;simp only [go_sem,hf,Arv.leg];refine⟨by kernel_rfl,hK _ ?_⟩;clear hK K))
  refine z4 rfl ?_
  repeat (first|refine nx ?_|(refine z3 fun K hK=>?_;simp only [go_sem];apply hK;clear hK K))
  simp only [go_sem]
 ·have hk:A.any (sameS a)=false:=by simpa using hk
  have hf:=z506 a A 0 0 hk
  rw [keyS] at hf
  by_cases ha:atB x.clues a.pl a.mi=true
  ·have e:arriveA x.clues A a=A++[a]:=by rw [arriveA,hk,ha];rfl
   rw [e]
   refine z52 46 Tryd.call83 Tryd.func83 rfl (by decide) [] [(0,0)] (by simp only [List.length_cons,List.length_nil];decide) (by kernel_rfl) fun J=>?_
   simp only [go_sem,St.startG,Tryd.ntmps83,Tryd.results83,List.map_cons,List.map_nil,List.range_succ,  ]
   repeat (first|refine nx ?_|(refine z3 fun K hK=>?_;simp only [go_sem,hf,ha];(repeat (first|(refine⟨_,.lent (hf:=h74) (hd:=rfl) (hr:=rfl),?_⟩;simp only [go_sem,hf,ha])|(refine⟨_,.given (hf:=h74) (hd:=rfl) (ha:=rfl),?_⟩;simp only [go_sem,hf,ha])));apply hK;clear hK K)|(refine z8 (by kernel_rfl) (by kernel_rfl) fun K hK=>?_;simp only [go_sem,hf,ha];(repeat (first|(refine⟨_,.fn (hf:=h74) (hd:=rfl) (hr:=.inl rfl),?_⟩;simp only [go_sem,hf,ha])));refine⟨by kernel_rfl,hK _ ?_⟩;clear hK K))
   refine z7 rfl ?_
   refine z34 ?_
   refine z137 6 (by kernel_rfl) (by kernel_rfl) (by kernel_rfl) (by decide) fun K hK=>?_
   simp only [go_sem,hf]
   refine⟨by kernel_rfl,?_⟩
   refine hK _ _ ?_
   clear hK K
   have hrl:(arvRows A).length≤549755813887:=by rw [arvRows,List.length_map];omega
   have hpush:=z505 a A 0
   refine z608 (by kernel_rfl) (by kernel_rfl) fun K hK=>?_
   simp only [go_sem,hrl]
   refine⟨by kernel_rfl,hK _ ?_⟩
   clear hK K
   repeat (first|refine nx ?_|(refine z3 fun K hK=>?_;simp only [go_sem];apply hK;clear hK K))
   simp only [go_sem,hpush,arvRows,List.map_append,List.map_cons,List.map_nil,Arv.spot,Arv.leg,keyS,List.length_append,List.length_cons,List.length_nil,Nat.zero_add]
  ·have ha:atB x.clues a.pl a.mi=false:=by simpa using ha
   have e:arriveA x.clues A a=A:=by rw [arriveA,hk,ha];rfl
   rw [e]
   refine z52 46 Tryd.call83 Tryd.func83 rfl (by decide) [] [(0,0)] (by simp only [List.length_cons,List.length_nil];decide) (by kernel_rfl) fun J=>?_
   simp only [go_sem,St.startG,Tryd.ntmps83,Tryd.results83,List.map_cons,List.map_nil,List.range_succ,  ]
   repeat (first|refine nx ?_|(refine z3 fun K hK=>?_;simp only [go_sem,hf,ha];(repeat (first|(refine⟨_,.lent (hf:=h74) (hd:=rfl) (hr:=rfl),?_⟩;simp only [go_sem,hf,ha])|(refine⟨_,.given (hf:=h74) (hd:=rfl) (ha:=rfl),?_⟩;simp only [go_sem,hf,ha])));apply hK;clear hK K)|(refine z8 (by kernel_rfl) (by kernel_rfl) fun K hK=>?_;simp only [go_sem,hf,ha];(repeat (first|(refine⟨_,.fn (hf:=h74) (hd:=rfl) (hr:=.inl rfl),?_⟩;simp only [go_sem,hf,ha])));refine⟨by kernel_rfl,hK _ ?_⟩;clear hK K))
   refine z4 rfl ?_
   repeat (first|refine nx ?_|(refine z3 fun K hK=>?_;simp only [go_sem];apply hK;clear hK K))
   simp only [go_sem]
end Go.Ab
namespace Go.Ab
open Go.RowKit Go.Proofs
set_option maxHeartbeats 4000000
set_option maxRecDepth 20000
attribute [local irreducible] WalkL Walk
structure Cnt where
 pl:Int
 mi:Int
 c:Int
def entsL:List Cnt→Nat→List (MK × DV × Nat)
 | [],_=>[]
 | a::l,j=>(keyS a.pl a.mi,.i a.c,j)::entsL l (j + 1)
def leftB (L:List Cnt):Blk:=.mp (some [.i64,.i64]) (entsL L 0) L.length
def cntL:List Cnt→Int→Int→Int
 | [],_,_=>0
 | a::l,p,m=>if a.pl=p∧a.mi=m then a.c else cntL l p m
def bumpL:List Cnt→Int→Int→List Cnt
 | [],p,m=>[⟨p,m,wr (0 + 1)⟩]
 | a::l,p,m=>if a.pl=p∧a.mi=m then ⟨a.pl,a.mi,wr (a.c + 1)⟩::l else a::bumpL l p m
def hasL (l:List Cnt) (p m:Int):Bool:=l.any fun a=>decide (a.pl=p∧a.mi=m)
theorem z283 {p m:Int}:∀ (l:List Cnt) (j i:Nat),hasL l p m=true→∃ q,findE (entsL l j) (keyS p m) i=some (i + q,.i (cntL l p m),j + q) ∧
  setBorn (entsL l j) ((j + q:Nat):Int) (.i (wr (cntL l p m + 1)))=some (entsL (bumpL l p m) j)∧(bumpL l p m).length=l.length
 | [],_,_,h=>by simp [hasL] at h
 | a::l,j,i,h=>by
  by_cases ha:a.pl=p∧a.mi=m
  ·refine⟨0,?_,?_,?_⟩
   ·rw [entsL,findE,if_pos (by rw [z211];exact⟨ha.1.symm,ha.2.symm⟩),cntL,if_pos ha];rfl
   ·rw [entsL,setBorn,if_pos (by simp),bumpL,if_pos ha,cntL,if_pos ha];rfl
   ·rw [bumpL,if_pos ha];rfl
  ·have h':hasL l p m=true:=by simpa [hasL,ha] using h
   obtain⟨q,h1,h2,h3⟩:=z283 l (j + 1) (i + 1) h'
   refine⟨q + 1,?_,?_,?_⟩
   ·rw [entsL,findE,if_neg (by rw [z211];exact fun hc=>ha ⟨hc.1.symm,hc.2.symm⟩),h1,cntL,if_neg ha,show i + 1 + q=i + (q + 1) by omega,show j + 1 + q=j + (q + 1) by omega]
   ·rw [entsL,setBorn,if_neg (by simp;omega),bumpL,if_neg ha,cntL,if_neg ha]
    rw [show ((j + (q + 1):Nat):Int)=((j + 1 + q:Nat):Int) by omega,h2]
    rfl
   ·rw [bumpL,if_neg ha];simp [h3]
theorem z298 {d:DV} {k:MK} {z:DV}:∀ (l:List Cnt) (j:Nat),setBorn (entsL l j++[(k,z,j + l.length)]) ((j + l.length:Nat):Int) d=some (entsL l j++[(k,d,j + l.length)])
 | [],j=>by simp [entsL,setBorn]
 | a::l,j=>by
  rw [entsL,List.cons_append,setBorn,if_neg (by simp only [List.length_cons];omega),List.length_cons]
  have:=z298 (d:=d) (k:=k) (z:=z) l (j + 1)
  rw [show j + 1 + l.length=j + (l.length + 1) by omega] at this
  rw [this]
  rfl
theorem z501 {p m:Int}:∀ (l:List Cnt) (j i:Nat),hasL l p m=false→findE (entsL l j) (keyS p m) i=none∧cntL l p m=0 ∧
  entsL (bumpL l p m) j=entsL l j++[(keyS p m,.i (wr (0 + 1)),j + l.length)]∧(bumpL l p m).length=l.length + 1
 | [],j,_,_=>by simp [entsL,findE,cntL,bumpL]
 | a::l,j,i,h=>by
  have ha:¬ (a.pl=p∧a.mi=m):=fun hc=>by simp [hasL,hc] at h
  have h':hasL l p m=false:=by
   rw [hasL,List.any_cons,Bool.or_eq_false_iff] at h
   exact h.2
  obtain⟨h1,h2,h3,h4⟩:=z501 l (j + 1) (i + 1) h'
  refine⟨?_,?_,?_,?_⟩
  ·rw [entsL,findE,if_neg (by rw [z211];exact fun hc=>ha ⟨hc.1.symm,hc.2.symm⟩),h1]
  ·rw [cntL,if_neg ha,h2]
  ·rw [bumpL,if_neg ha,entsL,h3,entsL,List.length_cons,List.cons_append]
   congr 3
   congr 2
   omega
  ·rw [bumpL,if_neg ha];simp [h4]
theorem z773 {p m:Int}:∀ (l:List Cnt),cntL (bumpL l p m) p m=wr (cntL l p m + 1)
 | []=>by simp [bumpL,cntL]
 | a::l=>by
  by_cases ha:a.pl=p∧a.mi=m
  ·rw [bumpL,if_pos ha,cntL,if_pos ha,cntL,if_pos ha]
  ·rw [bumpL,if_neg ha,cntL,if_neg ha,cntL,if_neg ha,z773 l]
theorem z740 {p m:Int}:∀ (l:List Cnt),hasL (bumpL l p m) p m=true
 | []=>by simp [bumpL,hasL]
 | a::l=>by
  by_cases ha:a.pl=p∧a.mi=m
  ·rw [bumpL,if_pos ha];simp [hasL,ha]
  ·rw [bumpL,if_neg ha]
   have:=z740 (p:=p) (m:=m) l
   simp [hasL] at this ⊢
   exact .inr this
def walkA (cl:List Clue) (lo hi:Int) (mk:Int→Arv):List (Int × Bool)→List Arv→List Arv
 | [],A=>A
 | w::ws,A=>if w.1 > hi then A else walkA cl lo hi mk ws (if w.1 ≥ lo then arriveA cl A (mk w.1) else A)
def pathA (n:Net) (x:Missed) (p m leave:Int) (A:List Arv) (k:Nat):List Arv:=match n.paths[k]? with
 | some y=>if y.frm=p∧y.grade≤x.party.grade then walkA x.clues (wr (leave + (spanW y x.party).lo)) (wr (leave + (spanW y x.party).hi)) (fun t=>⟨y.to,t,p,m,k,leave⟩) (walksL x leave) A else A
 | none=>A
def pathsA (n:Net) (x:Missed) (p m leave:Int) (k:Nat) (A:List Arv):List Arv:=(List.range k).foldl (pathA n x p m leave) A
def leaveA (n:Net) (x:Missed) (p m:Int) (a:List Arv × List Cnt) (leave:Int):List Arv × List Cnt :=
 if cntL (bumpL a.2 p leave) p leave > 1 then (a.1,bumpL a.2 p leave) else (pathsA n x p m leave n.paths.length a.1,bumpL a.2 p leave)
def spotA (n:Net) (x:Missed) (s:Arv) (a:List Arv × List Cnt):List Arv × List Cnt:=(staysL x s.pl s.mi (wr (s.mi + x.rest))).foldl (leaveA n x s.pl s.mi) a
def followF (n:Net) (x:Missed):Nat→Nat→List Arv × List Cnt→List Arv × List Cnt
 | 0,_,a=>a
 | f + 1,i,a=>match a.1[i]? with
  | some s=>followF n x f (i + 1) (spotA n x s a)
  | none=>a
def startA (x:Missed):List Arv:=arriveA x.clues [] ⟨x.place,x.start,0,0,-1,0⟩
end Go.Ab
namespace Go.Ab
open Go.RowKit Go.Proofs
set_option maxHeartbeats 16000000
set_option maxRecDepth 20000
attribute [local irreducible] WalkL Walk
structure Hunted (n:Net) (x:Missed):Prop where
 net:n.Good
 party:x.party.Good
 place:0≤x.place∧x.place<n.places
 start:0≤x.start∧x.start≤x.now
 now:x.now≤2880
 rest:0≤x.rest∧x.rest≤600
 clues:x.clues.length<2 ^ 30
def goodA (n:Net) (x:Missed) (A:List Arv):Prop:=(∀ a ∈ A,(0≤a.pl∧a.pl<n.places)∧x.start≤a.mi∧a.mi≤x.now)∧(A.map fun a=>(a.pl,a.mi)).Nodup
def boundN (n:Net) (x:Missed):Nat:=n.places.toNat * (x.now - x.start + 1).toNat
theorem z365 {n:Net} {x:Missed} {A:List Arv} (h:goodA n x A):A.length≤boundN n x:=by
 have h1:(A.map fun a=>(a.pl,a.mi)).length≤((List.range n.places.toNat).flatMap fun (i:Nat)=>(List.range (x.now - x.start + 1).toNat).map fun (j:Nat)=>((i:Int),x.start + (j:Int))).length:=by
  refine List.Nodup.length_le_of_subset h.2 fun q hq=>?_
  obtain⟨a,ha,rfl⟩:=List.mem_map.1 hq
  obtain⟨⟨h1,h2⟩,h3,h4⟩:=h.1 a ha
  refine List.mem_flatMap.2 ⟨a.pl.toNat,List.mem_range.2 (by omega),List.mem_map.2 ⟨(a.mi - x.start).toNat,List.mem_range.2 (by omega),?_⟩⟩
  simp;omega
 simp only [List.length_map,List.length_flatMap,List.length_range] at h1
 have:(List.map (fun _=>(x.now - x.start + 1).toNat) (List.range n.places.toNat)).sum=n.places.toNat * (x.now - x.start + 1).toNat:=by
  rw [List.map_const',List.sum_replicate_nat,List.length_range]
 rw [boundN];omega
theorem z778 {n:Net} {x:Missed} (h:Hunted n x):boundN n x≤40000:=by
 have h1:=h.net.places
 have h2:=h.start
 have h3:=h.now
 rw [boundN]
 have a1:n.places.toNat≤12:=by omega
 have a2:(x.now - x.start + 1).toNat≤2881:=by omega
 have:=Nat.mul_le_mul a1 a2
 omega
theorem z140 {n:Net} {x:Missed} {A:List Arv} {a:Arv} (h:goodA n x A) (ha:(0≤a.pl∧a.pl<n.places)∧x.start≤a.mi∧a.mi≤x.now):goodA n x (arriveA x.clues A a):=by
 rw [arriveA]
 split
 ·exact h
 ·rename_i hc
  have hc:A.any (sameS a)=false:=by
   rw [Bool.or_eq_true] at hc
   simpa using fun hh=>hc (.inl hh)
  refine⟨fun b hb=>?_,?_⟩
  ·rcases List.mem_append.1 hb with hb | hb
   ·exact h.1 b hb
   ·simp at hb;subst hb;exact ha
  ·rw [List.map_append,List.nodup_append]
   refine⟨h.2,by simp,fun u hu v hv e=>?_⟩
   simp at hv
   subst hv;subst e
   obtain⟨b,hb,he⟩:=List.mem_map.1 hu
   have:=List.any_eq_false.1 hc b hb
   simp [sameS] at this
   simp at he
   exact this he.1 he.2
theorem z289 {cl:List Clue}:∀ {f:Nat} {m:Int} {w:Int × Bool},w ∈ walksF cl f m→m≤w.1∧w.1<m + f
 | 0,m,w,h=>by simp [walksF] at h
 | f + 1,m,w,h=>by
  rw [walksF] at h
  rcases List.mem_cons.1 h with rfl | h
  ·exact⟨Int.le_refl _,by simp;omega⟩
  ·split at h
   ·have:=z289 h;omega
   ·simp at h
theorem z288 {x:Missed} {leave:Int} {w:Int × Bool} (h:w ∈ walksL x leave):leave + 1≤w.1∧w.1≤x.now:=by
 have:=z289 h
 omega
theorem z296 {cl:List Clue} {p top:Int}:∀ {f:Nat} {m w:Int},w ∈ staysF cl p top f m→m≤w∧w≤top
 | 0,m,w,h=>by simp [staysF] at h
 | f + 1,m,w,h=>by
  rw [staysF] at h
  split at h
  ·rename_i hc
   rcases List.mem_cons.1 h with rfl | h
   ·exact⟨Int.le_refl _,hc.1⟩
   ·have:=z296 h;omega
  ·simp at h
theorem z295 {x:Missed} {p m most w:Int} (h:w ∈ staysL x p m most):m≤w∧w≤most∧w≤x.now:=by
 have:=z296 h
 omega
end Go.Ab
namespace Go.Ab
open Go.RowKit Go.Proofs
set_option maxHeartbeats 16000000
set_option maxRecDepth 20000
attribute [local irreducible] WalkL Walk
def trkL (h:DV) (A:List Arv):List Blk:=[.box [.d h,.mp 1,.own 2],.mp (some [.i64,.i64]) (entsA A 0) A.length,.arr 114 2 (arvRows A)]
theorem z381 (A:List Arv):(arvRows A).length=A.length:=by simp [arvRows]
theorem z382 {A:List Arv} {i:Nat} {s:Arv} (h:A[i]?=some s):(arvRows A)[i]?=some [.i s.pl,.i s.mi]:=by simp [arvRows,h,Arv.spot]
theorem z1289 (es:List (MK × DV × Nat)):mkE (es.map fun e=>(e.1,e.2.2)) (es.map fun e=>e.2.1)=es:=by
 induction es with
 | nil=>rfl
 | cons e es ih=>simp only [mkE,List.map_cons,List.zipWith_cons_cons] at ih ⊢;rw [ih]
theorem z462 (n:Net) (p:Party) {k:Nat} {y:Path} (hy:n.paths[k]?=some y):∃ ks vs c,timesD n p=.mp none ks vs c ∧
  ((y.grade≤p.grade∧∃ q b,findE (mkE ks vs) (.i k) 0=some (q,.agg (spanW y p).row,b))∨(¬ y.grade≤p.grade∧findE (mkE ks vs) (.i k) 0=none)):=by
 refine⟨_,_,_,rfl,?_⟩
 rw [z1289]
 have hlt:=(List.getElem?_eq_some_iff.1 hy).1
 by_cases hg:y.grade≤p.grade
 ·obtain⟨q,b,h⟩:=z502 p (w:=(k,y)) (canL n p) 0 0 (z378 hy hg hlt) (fun v hv e=>by
   obtain⟨_,h2,_⟩:=z107 hv
   have e:v.1=k:=e
   rw [e,hy] at h2
   cases v
   simp at e h2
   rw [e,h2])
  exact .inl ⟨hg,q,b,h⟩
 ·refine .inr ⟨hg,z284 p _ 0 0 fun w hw e=>hg ?_⟩
  obtain⟨_,h2,h3⟩:=z107 hw
  have:w.1=k:=by omega
  rw [this,hy] at h2
  cases h2
  exact h3
theorem z372 {k:MK} {d:DV} {b:Nat}:∀ (es:List (MK × DV × Nat)) (i:Nat),findE es k i=none→findE (es++[(k,d,b)]) k i=some (i + es.length,d,b)
 | [],i,_=>by simp [findE]
 | e::es,i,h=>by
  rw [findE] at h
  split at h
  ·cases h
  ·rename_i hk
   rw [List.cons_append,findE,if_neg hk,z372 es (i + 1) h]
   congr 2
   simp;omega
theorem z941 (cl:List Clue) (A:List Arv) (a:Arv):A.length≤(arriveA cl A a).length:=by
 rw [arriveA];split <;> simp
theorem z609 (cl:List Clue) (lo hi:Int) (mk:Int→Arv):∀ (ws:List (Int × Bool)) (A:List Arv),A.length≤(walkA cl lo hi mk ws A).length
 | [],A=>Nat.le_refl _
 | w::ws,A=>by
  rw [walkA];split
  ·exact Nat.le_refl _
  ·refine Nat.le_trans ?_ (z609 cl lo hi mk ws _)
   split
   ·exact z941 _ _ _
   ·exact Nat.le_refl _
theorem z1129 (n:Net) (x:Missed) (p m leave:Int) (A:List Arv) (k:Nat):A.length≤(pathA n x p m leave A k).length:=by
 rw [pathA];split
 ·split
  ·exact z609 _ _ _ _ _ _
  ·exact Nat.le_refl _
 ·exact Nat.le_refl _
theorem z757 {α β:Type} (f:List α→β→List α) (h:∀ a b,a.length≤(f a b).length):∀ (l:List β) (a:List α),a.length≤(l.foldl f a).length
 | [],a=>Nat.le_refl _
 | b::l,a=>Nat.le_trans (h a b) (z757 f h l _)
theorem z1056 (n:Net) (x:Missed) (p m:Int) (a:List Arv × List Cnt) (lv:Int):a.1.length≤(leaveA n x p m a lv).1.length:=by
 rw [leaveA];split
 ·exact Nat.le_refl _
 ·exact z757 _ (fun A k=>z1129 n x p m lv A k) _ _
theorem z496 (n:Net) (x:Missed) (p m:Int):∀ (l:List Int) (a:List Arv × List Cnt),a.1.length≤(l.foldl (leaveA n x p m) a).1.length
 | [],a=>Nat.le_refl _
 | b::l,a=>Nat.le_trans (z1056 n x p m a b) (z496 n x p m l _)
theorem z1112 (n:Net) (x:Missed) (s:Arv) (a:List Arv × List Cnt):a.1.length≤(spotA n x s a).1.length:=z496 _ _ _ _ _ _
theorem z1430 (n:Net) (x:Missed) (hx:Hunted n x):FnG Tryd.prog 49 [] [] [.d (.ptr (huntC n x) 0)] (.box 0 0) (trkM (.ptr (huntC n x) 0) (followF n x (boundN n x + 1) 0 (startA x,[])).1):=by
 have c7:(huntC n x)[7]?=some (.i x.place):=rfl
 have c8:(huntC n x)[8]?=some (.i x.start):=rfl
 have c10:(huntC n x)[10]?=some (.i x.rest):=rfl
 have c1:(huntC n x)[1]?=some (.sl (n.paths.map Path.row)):=rfl
 have h63:FnG Tryd.prog 83 [.box [.d (.ptr (huntC n x) 0),.mp 1,.own 2],.mp (some [.i64,.i64]) [] 0,.arr 114 2 []] [0] [.box 0 0,.d (.agg [.i x.place,.i x.start]),.d (.agg [.i 0,.i 0,.i (-1),.i 0])] (.tup [])
   [.box [.d (.ptr (huntC n x) 0),.mp 1,.own 2],.mp (some [.i64,.i64]) (entsA (startA x) 0) (startA x).length,.arr 114 2 (arvRows (startA x))] :=
  z1403 n x [] ⟨x.place,x.start,0,0,-1,0⟩ hx.place.1 (by have:=hx.clues;omega) (by simp)
 have hN:=z778 hx
 have hst:=hx.start
 have hno:=hx.now
 have hre:=hx.rest
 have hcl:=hx.clues
 have hpl:=hx.net.paths
 refine z52 160 Tryd.call49 Tryd.func49 rfl (by decide) [16,14,150] [] (by simp only [List.length_cons,List.length_nil];decide) (by kernel_rfl) fun J=>?_
 simp only [go_sem,St.startG,Tryd.ntmps49,Tryd.results49,List.map_cons,List.map_nil,List.range_succ,  ]
 repeat (first|refine nx ?_|(refine z3 fun K hK=>?_;simp only [go_sem];apply hK;clear hK K))
 refine z459 [] [] [(16,some (.box [.d (.ptr (huntC n x) 0),.mp 14,.own 150])),(150,some (.arr 114 2 []))] ?_ ?_
 ·simp only [go_sem]
  refine z26 [150] ?_ ?_ rfl rfl <;> simp [lessT,lessM,lessB,AV.less]
 simp only [go_sem]
 refine z137 13 (by kernel_rfl) (by kernel_rfl) (by kernel_rfl) (by decide) fun K hK=>?_
 simp only [go_sem,c7,c8]
 refine⟨by kernel_rfl,?_⟩
 refine⟨_,.own (ns:=[16,14,150]) (news:=[]) (bads:=[14,150]) (rd:=[]) (hf:=h63) (hnd:=by decide) (hl0:=rfl) (hl1:=rfl) (hm:=by repeat (first|exact trivial|refine And.intro ?_ ?_|rfl)) (hnew:=rfl) (hla:=rfl) (ha:=z49 (by repeat (first|exact trivial|refine And.intro ?_ ?_|exact z53 rfl|exact z42 rfl rfl))) (hrd:=rfl) (hsh:=z149 _) (hb:=rfl) (hfl:=.inl rfl),?_⟩
 simp only [go_sem,List.map_cons,List.map_nil]
 refine hK _ _ ?_
 clear hK K
 repeat (first|refine nx ?_|(refine z3 fun K hK=>?_;simp only [go_sem];apply hK;clear hK K))
 obtain⟨R,hR⟩:∃ R,R=followF n x (boundN n x + 1) 0 (startA x,[]):=⟨_,rfl⟩
 rw [← hR]
 refine z13 (fun (a:Nat × List Arv × List Cnt)=>[(5,.d (.i a.1))]) (fun a=>[(14,some (.mp (some [.i64,.i64]) (entsA a.2.1 0) a.2.1.length)),(150,some (.arr 114 2 (arvRows a.2.1))),(31,some (.mp (some [.i64,.i64]) (entsL a.2.2 0) a.2.2.length))])
  (fun a=>a.1≤a.2.1.length∧goodA n x a.2.1∧R=followF n x (boundN n x + 1 - a.1) a.1 a.2) (fun a=>boundN n x + 1 - a.1) (0,startA x,[]) ?_ ⟨Nat.zero_le _,?_,hR⟩ ?_
 ·simp only [go_sem,entsL,List.length_nil]
  refine weA ?_ ?_ <;> simp
 ·exact z140 ⟨fun a ha=>(by simp at ha),by simp⟩ ⟨hx.place,Int.le_refl _,hst.2⟩
 ·rintro⟨i,A,L⟩ ⟨hi,hgA,hRi⟩
  dsimp only at hi hgA hRi
  have hAl:=z365 hgA
  have hrl:=z381 A
  simp only [go_sem]
  repeat (first|refine nx ?_|(refine z3 fun K hK=>?_;simp only [go_sem,hrl];apply hK;clear hK K))
  refine z5 rfl (fun hb=>?_) (fun hb=>?_)
  ·have hlt:i<A.length:=by simpa using hb
   have hw:IntKind.i64.wrap ((i:Int) + 1)=((i + 1:Nat):Int):=by rw [z9 (by omega)];simp
   obtain⟨s,hs⟩:∃ s,A[i]?=some s:=⟨_,List.getElem?_eq_getElem hlt⟩
   have hrow:=z382 hs
   have hil:i<(arvRows A).length:=by omega
   have hgs:=hgA.1 s (List.mem_of_getElem? hs)
   have h64:FnG Tryd.prog 84 [.box [.d (.ptr (huntC n x) 0),.mp 1,.own 2],.mp (some [.i64,.i64]) (entsA A 0) A.length,.arr 114 2 (arvRows A)] [0] [.box 0 0,.d (.agg [.i s.pl,.i s.mi]),.d (.i (wr (s.mi + x.rest)))] (.fn 102 [.box 3 0,.box 4 0,.box 5 0])
    [.box [.d (.ptr (huntC n x) 0),.mp 1,.own 2],.mp (some [.i64,.i64]) (entsA A 0) A.length,.arr 114 2 (arvRows A),.box [.d (.i s.pl),.d (.i s.mi)],.box [.d (.i (wr (s.mi + x.rest)))],.box [.box 0 0]]:=z1355 _ A s.pl s.mi _
   repeat (first|refine nx ?_|(refine z3 fun K hK=>?_;simp only [go_sem,hrow,hil];apply hK;clear hK K))
   refine z137 10 (by kernel_rfl) (by kernel_rfl) (by kernel_rfl) (by decide) fun K hK=>?_
   simp only [go_sem,c10]
   refine⟨by kernel_rfl,?_⟩
   refine⟨_,.own (ns:=[16,14,150]) (news:=[151,152,153]) (bads:=[14,150]) (rd:=[]) (hf:=h64) (hnd:=by decide) (hl0:=rfl) (hl1:=rfl) (hm:=by repeat (first|exact trivial|refine And.intro ?_ ?_|rfl)) (hnew:=rfl) (hla:=rfl) (ha:=z49 (by repeat (first|exact trivial|refine And.intro ?_ ?_|exact z53 rfl|exact z42 rfl rfl))) (hrd:=rfl) (hsh:=z149 _) (hb:=rfl) (hfl:=.inl rfl),?_⟩
   simp only [go_sem,List.map_cons,List.map_nil]
   refine hK _ _ ?_
   clear hK K
   refine z51 ?_
   have hsp:0≤s.pl:=hgs.1.1
   obtain⟨Ls,hLs⟩:∃ Ls,Ls=staysL x s.pl s.mi (wr (s.mi + x.rest)):=⟨_,rfl⟩
   have hit:=z1297 n x s.pl s.mi (wr (s.mi + x.rest)) hsp (by omega) (by omega) (by omega)
   rw [← hLs] at hit
   refine z233 (fun _ h=>by cases h) 16 16 ((trkB n x).map some) [151,152,153] rfl hit (fun b=>rfl) (by intro row hr;obtain⟨w,_,rfl⟩:=List.mem_map.1 hr;rfl)
    (fun _=>[(58,.undef)]) (fun (a:List Arv × List Cnt)=>[(151,none),(152,none),(153,none),(14,some (.mp (some [.i64,.i64]) (entsA a.1 0) a.1.length)),(150,some (.arr 114 2 (arvRows a.1))),(31,some (.mp (some [.i64,.i64]) (entsL a.2 0) a.2.length))])
    (fun i a=>a=(Ls.take i).foldl (leaveA n x s.pl s.mi) (A,L)∧goodA n x a.1) (fun _ _=>False) (A,L) ?_ ?_ ⟨by simp,hgA⟩ ?_ ?_ ?_ (fun _ _ h=>h.elim)
   ·exact⟨rfl,rfl,trivial⟩
   ·simp only [go_sem]
    refine weA ?_ ?_ <;> simp
   ·intro a
    simp only [go_sem]
    exact⟨rfl,rfl,trivial⟩
   ·rintro j ⟨A1,L1⟩ row hj ⟨hA1,hgA1⟩ l m
    dsimp only at hA1 hgA1
    obtain⟨lv,hlv,rfl⟩:∃ lv,Ls[j]?=some lv∧row=[.i lv]:=by
     simp only [minRows,List.getElem?_map,Option.map_eq_some_iff] at hj
     obtain⟨lv,h1,h2⟩:=hj
     exact⟨lv,h1,h2.symm⟩
    have hlr:=z295 (hLs ▸ List.mem_of_getElem? hlv)
    have hnext:(Ls.take (j + 1)).foldl (leaveA n x s.pl s.mi) (A,L)=leaveA n x s.pl s.mi (A1,L1) lv:=by
     rw [List.take_add_one,hlv,List.foldl_append,← hA1];rfl
    simp only [go_sem]
    repeat (first|refine nx ?_|(refine z3 fun K hK=>?_;simp only [go_sem];apply hK;clear hK K))
    intro J2 hJ2
    refine z51 ?_
    obtain⟨c,hc⟩:∃ c,c=wr (cntL L1 s.pl lv + 1):=⟨_,rfl⟩
    obtain⟨L2,hL2⟩:∃ L2,L2=bumpL L1 s.pl lv:=⟨_,rfl⟩
    have hcb:cntL L2 s.pl lv=c:=by rw [hL2,hc,z773]
    obtain⟨q2,hq2,_⟩:=z283 (p:=s.pl) (m:=lv) L2 0 0 (by rw [hL2];exact z740 L1)
    rw [keyS,hcb,Nat.zero_add] at hq2
    have hc':IntKind.i64.wrap (cntL L1 s.pl lv + 1)=c:=hc.symm
    have hlv:leaveA n x s.pl s.mi (A1,L1) lv=if c > 1 then (A1,L2) else (pathsA n x s.pl s.mi lv n.paths.length A1,L2):=by
     rw [leaveA];dsimp only;rw [← hL2,hcb]
    repeat refine z34 ?_
    refine z29 [] [(31,some (.mp (some [.i64,.i64]) (entsL L2 0) L2.length))] ?_ ?_
    ·by_cases hin:hasL L1 s.pl lv=true
     ·obtain⟨q1,hq1,hb1,hl1⟩:=z283 (p:=s.pl) (m:=lv) L1 0 0 hin
      rw [keyS,Nat.zero_add] at hq1
      rw [Nat.zero_add,← hc,← hL2] at hb1
      rw [← hL2] at hl1
      refine z138 (fun b=>[(60,bif b 0 then .undef else .mp 31),(61,bif b 1 then .undef else .box 6 0),(62,bif b 2 then .undef else .d (.i s.pl)),(63,bif b 3 then .undef else .d (.i lv)),(64,bif b 4 then .undef else .agg [.d (.i s.pl),.d (.i lv)]),
       (65,bif b 5 then .undef else .d (.i (cntL L1 s.pl lv))),(66,bif b 6 then .undef else .d (.i c)),(67,bif b 7 then .undef else .tup [.d (.i (cntL L1 s.pl lv)),.d (.i ((q1:Nat):Int))]),(68,bif b 8 then .undef else .d (.i ((q1:Nat):Int)))])
       (fun _=>[]) 9 (by kernel_rfl) (by kernel_rfl) (by kernel_rfl) (by decide) ?_ ?_ (Weak.refl _) ?_
      ·simp only [go_sem]
      ·refine⟨?_,?_,?_,?_,?_,?_,?_,?_,?_,trivial⟩
       all_goals
        intro b hbm hdm _
        simp only [depsM,Region.binds,true_and,and_true,Nat.zero_add,Nat.reduceAdd,reduceCtorEq,forall_const] at hdm
        refine⟨rfl,rfl,?_⟩
        cases hb7:b 7
        all_goals
         first | (exfalso;rw [hb7] at hbm;exact Bool.noConfusion hbm) | (exfalso;rw [hb7] at hdm;simp at hdm;done) | simp only [go_sem,hbm,hdm,hb7,hq1,hc']
      ·intro K hK
       simp only [go_sem,hb1]
       refine hK _ _ ?_
       clear hK K
       refine z11 ?_
       refine z6 ?_
       refine⟨rfl,?_⟩
       simp only [go_sem,hl1]
       refine weA ?_ ?_ <;> simp
     ·have hin:hasL L1 s.pl lv=false:=by simpa using hin
      obtain⟨hq1,hcz,hb1,hl1⟩:=z501 (p:=s.pl) (m:=lv) L1 0 0 hin
      have hsb:=z298 (d:=.i c) (k:=keyS s.pl lv) (z:=.i 0) L1 0
      have hc0:IntKind.i64.wrap (0 + 1)=c:=by rw [hc,hcz]
      rw [← hL2,show wr (0 + 1)=c from hc0] at hb1
      rw [← hb1] at hsb
      rw [← hL2] at hl1
      rw [keyS] at hq1 hsb
      simp only [Nat.zero_add] at hsb
      have hq1p:=z372 (d:=.i 0) (b:=L1.length) _ 0 hq1
      rw [Nat.zero_add] at hq1p
      refine z138 (fun b=>[(60,bif b 0 then .undef else .mp 31),(61,bif b 1 then .undef else .box 6 0),(62,bif b 2 then .undef else .d (.i s.pl)),(63,bif b 3 then .undef else .d (.i lv)),(64,bif b 4 then .undef else .agg [.d (.i s.pl),.d (.i lv)]),
       (65,bif b 5 then .undef else .d (.i 0)),(66,bif b 6 then .undef else .d (.i c)),(67,bif b 7 then .undef else .tup [.d (.i 0),.d (.i ((L1.length:Nat):Int))]),(68,bif b 8 then .undef else .d (.i ((L1.length:Nat):Int)))])
       (fun b=>[(31,bif b 7 then some (.mp (some [.i64,.i64]) (entsL L1 0) L1.length) else some (.mp (some [.i64,.i64]) (entsL L1 0++[(.s [(.i64,s.pl),(.i64,lv)],.i 0,L1.length)]) (L1.length + 1)))]) 9 (by kernel_rfl) (by kernel_rfl) (by kernel_rfl) (by decide) ?_ ?_ (Weak.refl _) ?_
      ·simp only [go_sem]
      ·refine⟨?_,?_,?_,?_,?_,?_,?_,?_,?_,trivial⟩
       all_goals
        intro b hbm hdm _
        simp only [depsM,Region.binds,true_and,and_true,Nat.zero_add,Nat.reduceAdd,reduceCtorEq,forall_const] at hdm
        refine⟨rfl,rfl,?_⟩
        cases hb7:b 7
        all_goals
         first | (exfalso;rw [hb7] at hbm;exact Bool.noConfusion hbm) | (exfalso;rw [hb7] at hdm;simp at hdm;done) | simp only [go_sem,hbm,hdm,hb7,hq1,hq1p,hc0]
      ·intro K hK
       simp only [go_sem,hsb]
       refine hK _ _ ?_
       clear hK K
       refine z11 ?_
       refine z6 ?_
       refine⟨rfl,?_⟩
       simp only [go_sem,hl1]
       refine weA ?_ ?_ <;> simp
    simp only [go_sem]
    repeat (first|refine nx ?_|(refine z3 fun K hK=>?_;simp only [go_sem,hq2];apply hK;clear hK K))
    refine z5 rfl (fun hcc=>?_) (fun hcc=>?_)
    ·have hcc':c > 1:=by simpa using hcc
     rw [if_pos hcc'] at hlv
     repeat (first|refine nx ?_|(refine z3 fun K hK=>?_;simp only [go_sem];apply hK;clear hK K))
     refine⟨rfl,(A1,L2),?_,by rw [hnext,hlv],hgA1⟩
     simp only [go_sem]
     refine weA ?_ ?_ <;> simp
    ·have hcc':¬ c > 1:=by simpa using hcc
     rw [if_neg hcc'] at hlv
     repeat (first|refine nx ?_|(refine z3 fun K hK=>?_;simp only [go_sem,c1];apply hK;clear hK K))
     refine z13 (fun (a:Nat × List Arv)=>[(83,.d (.i a.1))]) (fun a=>[(14,some (.mp (some [.i64,.i64]) (entsA a.2 0) a.2.length)),(150,some (.arr 114 2 (arvRows a.2)))])
      (fun a=>a.1≤n.paths.length∧goodA n x a.2∧a.2=pathsA n x s.pl s.mi lv a.1 A1) (fun a=>n.paths.length - a.1) (0,A1) ?_ ⟨Nat.zero_le _,hgA1,rfl⟩ ?_
     ·simp only [go_sem]
      refine weA ?_ ?_ <;> simp
     ·rintro⟨k,A2⟩ ⟨hk,hgA2,hA2⟩
      dsimp only at hk hgA2 hA2
      simp only [go_sem]
      repeat (first|refine nx ?_|(refine z3 fun K hK=>?_;simp only [go_sem];apply hK;clear hK K))
      refine z5 rfl (fun hkb=>?_) (fun hkb=>?_)
      ·have hkl:k<n.paths.length:=by simpa using hkb
       have hkw:IntKind.i64.wrap ((k:Int) + 1)=((k + 1:Nat):Int):=by rw [z9 (by omega)];simp
       obtain⟨y,hy⟩:∃ y,n.paths[k]?=some y:=⟨_,List.getElem?_eq_getElem hkl⟩
       obtain⟨ks,vs,cc,hT,hlook⟩:=z462 n x.party hy
       have c2:(huntC n x)[2]?=some (.mp none ks vs cc):=by rw [← hT];rfl
       have hyg:=hx.net.path y (List.mem_of_getElem? hy)
       have hpk:pathsA n x s.pl s.mi lv (k + 1) A1=pathA n x s.pl s.mi lv A2 k:=by rw [pathsA,List.range_succ,List.foldl_append,hA2];rfl
       rw [pathA,hy] at hpk
       dsimp only at hpk
       rcases hlook with ⟨hg,q,b,hf⟩ | ⟨hg,hf⟩
       ·repeat (first|refine nx ?_|(refine z3 fun K hK=>?_;simp only [go_sem,hy,List.getElem?_map,Path.row];apply hK;clear hK K))
        refine z8 (by kernel_rfl) (by kernel_rfl) fun K hK=>?_
        simp only [go_sem,c2,hf,Span.row]
        refine⟨by kernel_rfl,hK _ ?_⟩
        clear hK K
        by_cases hfr:y.frm=s.pl
        ·have hne:(y.frm != s.pl)=false:=by simp [hfr]
         rw [if_pos ⟨hfr,hg⟩] at hpk
         have h65:FnG Tryd.prog 85 [.box [.d (.ptr (huntC n x) 0),.mp 1,.own 2],.mp (some [.i64,.i64]) (entsA A2 0) A2.length,.arr 114 2 (arvRows A2)] [0] [.box 0 0,.d (.i lv)] (.fn 103 [.box 3 0,.box 4 0])
          [.box [.d (.ptr (huntC n x) 0),.mp 1,.own 2],.mp (some [.i64,.i64]) (entsA A2 0) A2.length,.arr 114 2 (arvRows A2),.box [.d (.i lv)],.box [.box 0 0]]:=z1354 _ A2 lv
         obtain⟨Ws,hWs⟩:∃ Ws,Ws=walksL x lv:=⟨_,rfl⟩
         have hit2:=z1296 n x lv (by omega) (by omega) (by omega)
         rw [← hWs] at hit2 hpk
         obtain⟨lo,hlo⟩:∃ lo,lo=wr (lv + (spanW y x.party).lo):=⟨_,rfl⟩
         obtain⟨hi,hhi⟩:∃ hi,hi=wr (lv + (spanW y x.party).hi):=⟨_,rfl⟩
         rw [← hlo,← hhi] at hpk
         have hlo':IntKind.i64.wrap (lv + (spanW y x.party).lo)=lo:=hlo.symm
         have hhi':IntKind.i64.wrap (lv + (spanW y x.party).hi)=hi:=hhi.symm
         repeat (first|refine nx ?_|(refine z3 fun K hK=>?_;simp only [go_sem,hne];apply hK;clear hK K))
         refine z4 rfl ?_
         repeat (first|refine z34 ?_|refine z61 ?_|refine z11 ?_|refine z6 ?_)
         refine z3 fun K hK=>?_
         simp only [go_sem]
         refine⟨_,.own (ns:=[16,14,150]) (news:=[154,155]) (bads:=[14,150]) (rd:=[]) (hf:=h65) (hnd:=by decide) (hl0:=rfl) (hl1:=rfl) (hm:=by repeat (first|exact trivial|refine And.intro ?_ ?_|rfl)) (hnew:=rfl) (hla:=rfl) (ha:=z49 (by repeat (first|exact trivial|refine And.intro ?_ ?_|exact z53 rfl|exact z42 rfl rfl))) (hrd:=rfl) (hsh:=z149 _) (hb:=rfl) (hfl:=.inl rfl),?_⟩
         simp only [go_sem,List.map_cons,List.map_nil]
         apply hK
         clear hK K
         repeat (first|refine z34 ?_|refine z61 ?_|refine z11 ?_|refine z6 ?_)
         refine z51 ?_
         have fin:∀ A3,walkA x.clues lo hi (fun t=>⟨y.to,t,s.pl,s.mi,k,lv⟩) Ws A2=A3→pathsA n x s.pl s.mi lv (k + 1) A1=A3:=fun A3 h=>by rw [hpk,h]
         refine z233 (fun _ h=>by cases h;exact hJ2) 16 16 ((trkB n x).map some) [154,155] rfl hit2 (fun b=>rfl) (by intro row hr;obtain⟨w,_,rfl⟩:=List.mem_map.1 hr;rfl)
          (fun _=>[(109,.undef)]) (fun (a:List Arv)=>[(154,none),(155,none),(14,some (.mp (some [.i64,.i64]) (entsA a 0) a.length)),(150,some (.arr 114 2 (arvRows a)))])
          (fun i a=>walkA x.clues lo hi (fun t=>⟨y.to,t,s.pl,s.mi,k,lv⟩) Ws A2=walkA x.clues lo hi (fun t=>⟨y.to,t,s.pl,s.mi,k,lv⟩) (Ws.drop i) a∧goodA n x a)
          (fun e a=>e=.exit 6∧walkA x.clues lo hi (fun t=>⟨y.to,t,s.pl,s.mi,k,lv⟩) Ws A2=a∧goodA n x a) A2 ?_ ?_ ⟨rfl,hgA2⟩ ?_ ?_ ?_ ?_
         ·exact⟨rfl,rfl,trivial⟩
         ·simp only [go_sem]
          refine weA ?_ ?_ <;> simp
         ·intro a
          simp only [go_sem]
          exact⟨rfl,rfl,trivial⟩
         ·rintro i2 A3 row hj2 ⟨hA3,hgA3⟩ l2 m2
          obtain⟨w,hw2,rfl⟩:∃ w,Ws[i2]?=some w∧row=[.i w.1,.bool w.2]:=by
           simp only [wkRows,List.getElem?_map,Option.map_eq_some_iff] at hj2
           obtain⟨w,h1,h2⟩:=hj2
           exact⟨w,h1,h2.symm⟩
          have hwr:=z288 (hWs ▸ List.mem_of_getElem? hw2)
          rw [z44 hw2,walkA] at hA3
          have hA3l:=z365 hgA3
          simp only [go_sem]
          repeat (first|refine nx ?_|(refine z3 fun K hK=>?_;simp only [go_sem];apply hK;clear hK K))
          intro J3 hJ3
          refine z51 ?_
          repeat (first|refine nx ?_|(refine z3 fun K hK=>?_;simp only [go_sem,hhi'];apply hK;clear hK K))
          refine z5 rfl (fun hc1=>?_) (fun hc1=>?_)
          ·have hc1':w.1 > hi:=by simpa using hc1
           rw [if_pos hc1'] at hA3
           repeat (first|refine nx ?_|(refine z3 fun K hK=>?_;simp only [go_sem];apply hK;clear hK K))
           refine⟨rfl,rfl,A3,?_,rfl,hA3,hgA3⟩
           simp only [go_sem]
           refine weA ?_ ?_ <;> simp
          ·have hc1':¬ w.1 > hi:=by simpa using hc1
           rw [if_neg hc1'] at hA3
           repeat (first|refine nx ?_|(refine z3 fun K hK=>?_;simp only [go_sem,hlo'];apply hK;clear hK K))
           refine z5 rfl (fun hc2=>?_) (fun hc2=>?_)
           ·have hc2':w.1 ≥ lo:=by simpa using hc2
            rw [if_pos hc2'] at hA3
            have h63':FnG Tryd.prog 83 [.box [.d (.ptr (huntC n x) 0),.mp 1,.own 2],.mp (some [.i64,.i64]) (entsA A3 0) A3.length,.arr 114 2 (arvRows A3)] [0] [.box 0 0,.d (.agg [.i y.to,.i w.1]),.d (.agg [.i s.pl,.i s.mi,.i k,.i lv])] (.tup [])
             [.box [.d (.ptr (huntC n x) 0),.mp 1,.own 2],.mp (some [.i64,.i64]) (entsA (arriveA x.clues A3 ⟨y.to,w.1,s.pl,s.mi,k,lv⟩) 0) (arriveA x.clues A3 ⟨y.to,w.1,s.pl,s.mi,k,lv⟩).length,.arr 114 2 (arvRows (arriveA x.clues A3 ⟨y.to,w.1,s.pl,s.mi,k,lv⟩))] :=
             z1403 n x A3 ⟨y.to,w.1,s.pl,s.mi,k,lv⟩ hyg.to.1 (by omega) (by omega)
            repeat (first|refine z34 ?_|refine z61 ?_)
            refine z3 fun K hK=>?_
            simp only [go_sem]
            refine⟨_,.own (ns:=[16,14,150]) (news:=[]) (bads:=[14,150]) (rd:=[]) (hf:=h63') (hnd:=by decide) (hl0:=rfl) (hl1:=rfl) (hm:=by repeat (first|exact trivial|refine And.intro ?_ ?_|rfl)) (hnew:=rfl) (hla:=rfl) (ha:=z49 (by repeat (first|exact trivial|refine And.intro ?_ ?_|exact z53 rfl|exact z42 rfl rfl))) (hrd:=rfl) (hsh:=z149 _) (hb:=rfl) (hfl:=.inl rfl),?_⟩
            simp only [go_sem,List.map_cons,List.map_nil]
            apply hK
            clear hK K
            repeat (first|refine nx ?_|(refine z3 fun K hK=>?_;simp only [go_sem];apply hK;clear hK K))
            refine⟨rfl,arriveA x.clues A3 ⟨y.to,w.1,s.pl,s.mi,k,lv⟩,?_,hA3,z140 hgA3 ⟨hyg.to,by dsimp only;omega⟩⟩
            simp only [go_sem]
            refine weA ?_ ?_ <;> simp
           ·have hc2':¬ w.1 ≥ lo:=by simpa using hc2
            rw [if_neg hc2'] at hA3
            repeat (first|refine nx ?_|(refine z3 fun K hK=>?_;simp only [go_sem];apply hK;clear hK K))
            refine⟨rfl,A3,?_,hA3,hgA3⟩
            simp only [go_sem]
            refine weA ?_ ?_ <;> simp
         ·rintro A3 ⟨hA3,hgA3⟩
          rw [wkRows,List.length_map,List.drop_length,walkA] at hA3
          simp only [go_sem]
          repeat (first|refine nx ?_|(refine z3 fun K hK=>?_;simp only [go_sem,hkw];apply hK;clear hK K))
          refine⟨rfl,(k + 1,A3),?_,⟨hkl,hgA3,(fin A3 hA3).symm⟩,by dsimp only;omega⟩
          simp only [go_sem]
          refine weA ?_ ?_ <;> simp
         ·rintro e A3 ⟨rfl,hA3,hgA3⟩ _
          refine z70 ?_
          refine z6 ?_
          simp only [go_sem]
          repeat (first|refine nx ?_|(refine z3 fun K hK=>?_;simp only [go_sem,hkw];apply hK;clear hK K))
          refine⟨rfl,(k + 1,A3),?_,⟨hkl,hgA3,(fin A3 hA3).symm⟩,by dsimp only;omega⟩
          simp only [go_sem]
          refine weA ?_ ?_ <;> simp
        ·have hne:(y.frm != s.pl)=true:=by simpa using hfr
         rw [if_neg (fun hc=>hfr hc.1)] at hpk
         repeat (first|refine nx ?_|(refine z3 fun K hK=>?_;simp only [go_sem,hne];apply hK;clear hK K))
         refine z7 rfl ?_
         repeat (first|refine nx ?_|(refine z3 fun K hK=>?_;simp only [go_sem,hkw];apply hK;clear hK K))
         refine⟨rfl,(k + 1,A2),?_,⟨hkl,hgA2,hpk.symm⟩,by dsimp only;omega⟩
         simp only [go_sem]
         refine weA ?_ ?_ <;> simp
       ·rw [if_neg (fun hc=>hg hc.2)] at hpk
        repeat (first|refine nx ?_|(refine z3 fun K hK=>?_;simp only [go_sem,hy,List.getElem?_map,Path.row];apply hK;clear hK K))
        refine z8 (by kernel_rfl) (by kernel_rfl) fun K hK=>?_
        simp only [go_sem,c2,hf]
        refine⟨by kernel_rfl,hK _ ?_⟩
        clear hK K
        by_cases hfr:y.frm=s.pl
        all_goals
         first | (have hne:(y.frm != s.pl)=false:=by simp [hfr]) | (have hne:(y.frm != s.pl)=true:=by simpa using hfr)
         repeat (first|refine nx ?_|(refine z3 fun K hK=>?_;simp only [go_sem,hne];apply hK;clear hK K))
         refine z7 rfl ?_
         repeat (first|refine nx ?_|(refine z3 fun K hK=>?_;simp only [go_sem,hkw];apply hK;clear hK K))
         refine⟨rfl,(k + 1,A2),?_,⟨hkl,hgA2,hpk.symm⟩,by dsimp only;omega⟩
         simp only [go_sem]
         refine weA ?_ ?_ <;> simp
      ·have he:k=n.paths.length:=by (have:¬ k<n.paths.length:=by simpa using hkb);omega
       subst he
       repeat (first|refine nx ?_|(refine z3 fun K hK=>?_;simp only [go_sem];apply hK;clear hK K))
       refine⟨rfl,(A2,L2),?_,by rw [hnext,hlv,hA2],hgA2⟩
       simp only [go_sem]
       refine weA ?_ ?_ <;> simp
   ·rintro⟨A1,L1⟩ ⟨hA1,hgA1⟩
    rw [minRows,List.length_map,List.take_length,hLs] at hA1
    have hA1:(A1,L1)=spotA n x s (A,L):=hA1
    have hln:A.length≤A1.length:=by
     have:=z1112 n x s (A,L)
     rw [← hA1] at this
     exact this
    rw [show boundN n x + 1 - i=(boundN n x - i) + 1 by omega,followF] at hRi
    dsimp only at hRi
    rw [hs] at hRi
    dsimp only at hRi
    rw [← hA1] at hRi
    simp only [go_sem]
    repeat (first|refine nx ?_|(refine z3 fun K hK=>?_;simp only [go_sem,hw];apply hK;clear hK K))
    refine⟨rfl,(i + 1,A1,L1),?_,⟨?_,hgA1,?_⟩,by dsimp only;omega⟩
    ·simp only [go_sem]
     refine weA ?_ ?_ <;> simp
    ·dsimp only at hgA1 ⊢;omega
    ·dsimp only
     rw [show boundN n x + 1 - (i + 1)=boundN n x - i by omega]
     exact hRi
  ·have he:i=A.length:=by (have:¬ i<A.length:=by simpa using hb);omega
   have hRe:R=(A,L):=by
    rw [hRi]
    cases hf:boundN n x + 1 - i with
    | zero=>rfl
    | succ f=>rw [followF];dsimp only;rw [List.getElem?_eq_none (by omega)]
   rw [hRe]
   repeat (first|refine nx ?_|(refine z3 fun K hK=>?_;simp only [go_sem];apply hK;clear hK K))
   simp only [go_sem,trkM,legsB]
end Go.Ab
namespace Go.Ab
open Go.RowKit Go.Proofs
set_option maxHeartbeats 16000000
set_option maxRecDepth 20000
attribute [local irreducible] WalkL Walk
structure EndT where
 pl:Int
 mi:Int
 pa:Int
 lv:Int
def EndT.row (e:EndT):List DV:=[.i e.pl,.i e.mi,.i e.pa,.i e.lv]
def endRows (l:List EndT):List (List DV):=l.map fun e=>[.agg e.row]
def seenF (l:List Clue):Int:=l.foldl (fun a c=>if c.seen then max a c.minute else a) 0
def endIn (x:Missed) (s:Arv) (m:Int):Option EndT:=if m=x.now then some ⟨s.pl,s.mi,-1,x.now⟩ else none
def endOn (n:Net) (x:Missed) (s:Arv) (lv:Int) (k:Nat):Option EndT:=match n.paths[k]? with
 | some y=>if y.grade≤x.party.grade∧y.frm=s.pl then some ⟨s.pl,s.mi,k,lv⟩ else none
 | none=>none
def endLv (n:Net) (x:Missed) (s:Arv) (lv:Int):List EndT:=if lv=x.now∨lv<seenF x.clues then [] else (List.range n.paths.length).filterMap (endOn n x s lv)
def endOf8 (n:Net) (x:Missed) (s:Arv):List EndT:=(staysL x s.pl s.mi x.now).filterMap (endIn x s)++(staysL x s.pl s.mi (wr (s.mi + x.rest))).flatMap (endLv n x s)
def endsL (n:Net) (x:Missed) (A:List Arv):List EndT:=A.flatMap (endOf8 n x)
theorem z507 {I X Y:List EndT} {e:EndT} (h:I=X++e::Y):(endRows I)[X.length]?=some [.agg e.row]:=by
 rw [h];simp [endRows]
theorem z1336 (n:Net) (x:Missed) (hx:Hunted n x) (A:List Arv) (b:DV) (hgA:goodA n x A) :
  IterE Tryd.prog 50 [] (fun l=>[.d (.ptr [.ptr (huntC n x) 0,b,.sl (arvRows A)] 0),.d (.yld l)]) (endRows (endsL n x A)):=by
 have c11:(huntC n x)[11]?=some (.sl (x.clues.map Clue.row)):=rfl
 have c9:(huntC n x)[9]?=some (.i x.now):=rfl
 have c10:(huntC n x)[10]?=some (.i x.rest):=rfl
 have c1:(huntC n x)[1]?=some (.sl (n.paths.map Path.row)):=rfl
 have hst:=hx.start
 have hno:=hx.now
 have hre:=hx.rest
 have hcl:=hx.clues
 have hpl:=hx.net.paths
 have hAl:=z365 hgA
 have hN:=z778 hx
 obtain⟨H,hH⟩:∃ H,H=huntC n x:=⟨_,rfl⟩
 refine z275 160 Tryd.call50 Tryd.func50 rfl rfl fun l J hG=>?_
 simp only [go_sem,St.startG,Tryd.ntmps50,Tryd.results50,List.map_cons,List.map_nil,List.range_succ,  ]
 repeat (first|refine nx ?_|(refine z3 fun K hK=>?_;simp only [go_sem,c11];apply hK;clear hK K))
 refine z13 (fun (i:Nat)=>[(24,.d (.i i))]) (fun i=>[(4,some (.box [.d (.i (seenF (x.clues.take i)))]))]) (fun i=>i≤x.clues.length) (fun i=>x.clues.length - i) 0 ?_ (Nat.zero_le _) ?_
 ·simp only [go_sem,seenF,List.take_zero,List.foldl_nil]
  refine weA ?_ ?_ <;> simp
 ·intro i hi
  simp only [go_sem]
  repeat (first|refine nx ?_|(refine z3 fun K hK=>?_;simp only [go_sem];apply hK;clear hK K))
  refine z5 rfl (fun hb=>?_) (fun hb=>?_)
  ·have hlt:i<x.clues.length:=by simpa using hb
   have hw:IntKind.i64.wrap ((i:Int) + 1)=((i + 1:Nat):Int):=by rw [z9 (by omega)];simp
   obtain⟨c,hc⟩:∃ c,x.clues[i]?=some c:=⟨_,List.getElem?_eq_getElem hlt⟩
   have hs1:seenF (x.clues.take (i + 1))=if c.seen then max (seenF (x.clues.take i)) c.minute else seenF (x.clues.take i):=by
    rw [seenF,z24 _ _ _ _ _ hc];rfl
   repeat (first|refine nx ?_|(refine z3 fun K hK=>?_;simp only [go_sem,hc,List.getElem?_map,Clue.row];apply hK;clear hK K))
   cases hcs:c.seen
   ·rw [hcs] at hs1
    refine z4 rfl ?_
    repeat (first|refine nx ?_|(refine z3 fun K hK=>?_;simp only [go_sem,hw];apply hK;clear hK K))
    refine⟨rfl,i + 1,?_,hlt,by omega⟩
    simp only [go_sem,hs1,Bool.false_eq_true,if_false]
    refine weA ?_ ?_ <;> simp
   ·rw [hcs] at hs1
    refine z7 rfl ?_
    repeat (first|refine nx ?_|(refine z3 fun K hK=>?_;simp only [go_sem,hw];apply hK;clear hK K))
    refine⟨rfl,i + 1,?_,hlt,by omega⟩
    simp only [go_sem,hs1,if_true]
    refine weA ?_ ?_ <;> simp
  ·have he:i=x.clues.length:=by (have:¬ i<x.clues.length:=by simpa using hb);omega
   subst he
   rw [List.take_length]
   have hrl:=z381 A
   repeat (first|refine nx ?_|(refine z3 fun K hK=>?_;simp only [go_sem,hrl];apply hK;clear hK K))
   obtain⟨I,hI⟩:∃ I,I=endsL n x A:=⟨_,rfl⟩
   rw [← hI] at hG ⊢
   refine z79 (fun (i:Nat)=>[(40,.d (.i i))]) (fun _=>[]) (fun k i=>i≤A.length∧∃ X,k=some X.length∧I=X++(A.drop i).flatMap (endOf8 n x)) (fun i=>A.length - i) 0 ?_ ⟨Nat.zero_le _,[],rfl,by rw [hI];rfl⟩ ?_
   ·simp only [go_sem]
    refine weA ?_ ?_ <;> simp
   ·rintro k i ⟨hi,X,rfl,hX⟩
    simp only [go_sem]
    repeat (first|refine nx ?_|(refine z3 fun K hK=>?_;simp only [go_sem];apply hK;clear hK K))
    refine z5 rfl (fun hb=>?_) (fun hb=>?_)
    ·have hlt:i<A.length:=by simpa using hb
     have hw:IntKind.i64.wrap ((i:Int) + 1)=((i + 1:Nat):Int):=by rw [z9 (by omega)];simp
     obtain⟨s,hs⟩:∃ s,A[i]?=some s:=⟨_,List.getElem?_eq_getElem hlt⟩
     have hrow:=z382 hs
     have hgs:=hgA.1 s (List.mem_of_getElem? hs)
     rw [z44 hs,List.flatMap_cons,endOf8] at hX
     have h64a:=z1402 [.ptr (huntC n x) 0,b,.sl (arvRows A)] s.pl s.mi x.now
     have h64b:=z1402 [.ptr (huntC n x) 0,b,.sl (arvRows A)] s.pl s.mi (wr (s.mi + x.rest))
     have hit1:=z1155 n x b (.sl (arvRows A)) s.pl s.mi x.now hgs.1.1 (by omega) (by omega) (by omega)
     have hit2:=z1155 n x b (.sl (arvRows A)) s.pl s.mi (wr (s.mi + x.rest)) hgs.1.1 (by omega) (by omega) (by omega)
     obtain⟨L1,hL1⟩:∃ L,L=staysL x s.pl s.mi x.now:=⟨_,rfl⟩
     obtain⟨L2,hL2⟩:∃ L,L=staysL x s.pl s.mi (wr (s.mi + x.rest)):=⟨_,rfl⟩
     rw [← hL1] at hit1 hX
     rw [← hL2] at hit2 hX
     obtain⟨Z,hZ⟩:∃ Z,Z=(A.drop (i + 1)).flatMap (endOf8 n x):=⟨_,rfl⟩
     rw [← hZ] at hX
     repeat (first|refine nx ?_|(refine z3 fun K hK=>?_;simp only [go_sem,hrow];apply hK;clear hK K))
     refine z8 (by kernel_rfl) (by kernel_rfl) fun K hK=>?_
     simp only [go_sem,c9]
     refine⟨_,.fn (hf:=h64a) (hd:=rfl) (hr:=.inr rfl),?_⟩
     simp only [go_sem]
     refine⟨by kernel_rfl,hK _ ?_⟩
     clear hK K
     refine z51 ?_
     refine z183 rfl hit1 (by intro row hr;obtain⟨w,_,rfl⟩:=List.mem_map.1 hr;rfl) (fun (_:Unit)=>[]) (fun _=>[]) (fun k' j _=>∃ Y,k'=some Y.length∧I=Y++((L1.drop j).filterMap (endIn x s)++(L2.flatMap (endLv n x s)++Z)))
      (fun e k' _=>e=.ret∧k'=none) () ?_ ⟨X,rfl,by simpa using hX⟩ ?_ ?_ ?_
     ·simp only [go_sem]
      refine weA ?_ ?_ <;> simp
     ·rintro X0 W0 k' j _ row hj ⟨Y,rfl,hY⟩ l1 m1
      obtain⟨m,hm,rfl⟩:∃ m,L1[j]?=some m∧row=[.i m]:=by
       simp only [minRows,List.getElem?_map,Option.map_eq_some_iff] at hj
       obtain⟨lv,h1,h2⟩:=hj
       exact⟨lv,h1,h2.symm⟩
      have hG1:=z278 hG X0 W0
      rw [z44 hm,List.filterMap_cons] at hY
      simp only [go_sem]
      repeat (first|refine nx ?_|(refine z3 fun K hK=>?_;simp only [go_sem];apply hK;clear hK K))
      by_cases hmn:m=x.now
      ·have hme:(m == x.now)=true:=by simpa using hmn
       have hei:endIn x s m=some ⟨s.pl,s.mi,-1,x.now⟩:=by rw [endIn,if_pos hmn]
       rw [hei] at hY
       dsimp only at hY
       rw [List.cons_append] at hY
       refine z82 hG1 [] 22 (by kernel_rfl) (by kernel_rfl) (by kernel_rfl) (by decide) fun K hK=>?_
       simp only [go_sem,c9,hme]
       refine⟨by kernel_rfl,?_⟩
       refine⟨rfl,Y.length,_,rfl,rfl,rfl,z507 hY,?_,?_⟩
       ·simp only [go_sem]
        refine hK _ _ ?_
        clear hK K
        refine z4 rfl ?_
        repeat (first|refine nx ?_|(refine z3 fun K hK=>?_;simp only [go_sem];apply hK;clear hK K))
        refine⟨(),?_,Y++[⟨s.pl,s.mi,-1,x.now⟩],by simp,by rw [hY];simp⟩
        simp only [go_sem]
        refine weA ?_ ?_ <;> simp
       ·simp only [go_sem]
        refine hK _ _ ?_
        clear hK K
        refine z7 rfl ?_
        repeat (first|refine nx ?_|(refine z3 fun K hK=>?_;simp only [go_sem];apply hK;clear hK K))
        refine⟨rfl,(),?_,rfl,rfl⟩
        simp only [go_sem]
        refine weA ?_ ?_ <;> simp
      ·have hme:(m == x.now)=false:=by simpa using hmn
       have hei:endIn x s m=none:=by rw [endIn,if_neg hmn]
       rw [hei] at hY
       dsimp only at hY
       refine z82 hG1 [] 22 (by kernel_rfl) (by kernel_rfl) (by kernel_rfl) (by decide) fun K hK=>?_
       simp only [go_sem,c9,hme]
       refine⟨by kernel_rfl,?_⟩
       refine hK _ _ ?_
       clear hK K
       refine z4 rfl ?_
       repeat (first|refine nx ?_|(refine z3 fun K hK=>?_;simp only [go_sem];apply hK;clear hK K))
       refine⟨(),?_,Y,rfl,hY⟩
       simp only [go_sem]
       refine weA ?_ ?_ <;> simp
     ·rintro k' _ ⟨Y,rfl,hY⟩
      rw [minRows,List.length_map,List.drop_length,List.filterMap_nil,List.nil_append] at hY
      simp only [go_sem]
      repeat (first|refine nx ?_|(refine z3 fun K hK=>?_;simp only [go_sem];apply hK;clear hK K))
      refine z8 (by kernel_rfl) (by kernel_rfl) fun K hK=>?_
      simp only [go_sem,c10]
      refine⟨_,.fn (hf:=h64b) (hd:=rfl) (hr:=.inr rfl),?_⟩
      simp only [go_sem]
      refine⟨by kernel_rfl,hK _ ?_⟩
      clear hK K
      refine z51 ?_
      refine z183 rfl hit2 (by intro row hr;obtain⟨w,_,rfl⟩:=List.mem_map.1 hr;rfl) (fun (_:Unit)=>[]) (fun _=>[]) (fun k' j _=>∃ Y,k'=some Y.length∧I=Y++((L2.drop j).flatMap (endLv n x s)++Z))
       (fun e k' _=>e=.ret∧k'=none) () ?_ ⟨Y,rfl,by simpa using hY⟩ ?_ ?_ ?_
      ·simp only [go_sem]
       refine weA ?_ ?_ <;> simp
      ·rintro X0 W0 k' j _ row hj ⟨Y,rfl,hY⟩ l1 m1
       obtain⟨lv,hlv,rfl⟩:∃ m,L2[j]?=some m∧row=[.i m]:=by
        simp only [minRows,List.getElem?_map,Option.map_eq_some_iff] at hj
        obtain⟨lv,h1,h2⟩:=hj
        exact⟨lv,h1,h2.symm⟩
       have hG1:=z278 hG X0 W0
       rw [z44 hlv,List.flatMap_cons] at hY
       simp only [go_sem]
       repeat (first|refine nx ?_|(refine z3 fun K hK=>?_;simp only [go_sem];apply hK;clear hK K))
       by_cases hmn:lv=x.now
       ·have hme:(lv == x.now)=true:=by simpa using hmn
        rw [endLv,if_pos (.inl hmn),List.nil_append] at hY
        repeat (first|refine nx ?_|(refine z3 fun K hK=>?_;simp only [go_sem,c9,hme];apply hK;clear hK K))
        refine z7 rfl ?_
        repeat (first|refine nx ?_|(refine z3 fun K hK=>?_;simp only [go_sem];apply hK;clear hK K))
        refine⟨(),?_,Y,rfl,hY⟩
        simp only [go_sem]
        refine weA ?_ ?_ <;> simp
       ·have hme:(lv == x.now)=false:=by simpa using hmn
        by_cases hls:lv<seenF x.clues
        ·have hle:decide (lv<seenF x.clues)=true:=by simpa using hls
         rw [endLv,if_pos (.inr hls),List.nil_append] at hY
         repeat (first|refine nx ?_|(refine z3 fun K hK=>?_;simp only [go_sem,c9,hme,hle];apply hK;clear hK K))
         refine z7 rfl ?_
         repeat (first|refine nx ?_|(refine z3 fun K hK=>?_;simp only [go_sem];apply hK;clear hK K))
         refine⟨(),?_,Y,rfl,hY⟩
         simp only [go_sem]
         refine weA ?_ ?_ <;> simp
        ·have hle:decide (lv<seenF x.clues)=false:=by simpa using hls
         rw [endLv,if_neg (fun hc=>hc.elim hmn hls)] at hY
         repeat (first|refine nx ?_|(refine z3 fun K hK=>?_;simp only [go_sem,c9,hme,hle];apply hK;clear hK K))
         refine z4 rfl ?_
         repeat (first|refine nx ?_|(refine z3 fun K hK=>?_;simp only [go_sem,c1];apply hK;clear hK K))
         obtain⟨V,hV⟩:∃ V,V=(L2.drop (j + 1)).flatMap (endLv n x s)++Z:=⟨_,rfl⟩
         rw [List.append_assoc,← hV] at hY
         refine z79 (fun (q:Nat)=>[(121,.d (.i q))]) (fun _=>[]) (fun k q=>q≤n.paths.length∧∃ Y,k=some Y.length∧I=Y++((List.range' q (n.paths.length - q)).filterMap (endOn n x s lv)++V)) (fun q=>n.paths.length - q) 0 ?_ ⟨Nat.zero_le _,Y,rfl,by rw [Nat.sub_zero,← List.range_eq_range'];exact hY⟩ ?_
         ·try simp only [go_sem]
          refine weA ?_ ?_ <;> simp
         ·rintro k q ⟨hq,Y,rfl,hY⟩
          simp only [go_sem]
          repeat (first|refine nx ?_|(refine z3 fun K hK=>?_;simp only [go_sem];apply hK;clear hK K))
          refine z5 rfl (fun hkb=>?_) (fun hkb=>?_)
          ·have hkl:q<n.paths.length:=by simpa using hkb
           have hkw:IntKind.i64.wrap ((q:Int) + 1)=((q + 1:Nat):Int):=by rw [z9 (by omega)];simp
           obtain⟨y,hy⟩:∃ y,n.paths[q]?=some y:=⟨_,List.getElem?_eq_getElem hkl⟩
           obtain⟨ks,vs,cc,hT,hlook⟩:=z462 n x.party hy
           have c2:(huntC n x)[2]?=some (.mp none ks vs cc):=by rw [← hT];rfl
           rw [show n.paths.length - q=(n.paths.length - (q + 1)) + 1 by omega,List.range'_succ,List.filterMap_cons] at hY
           rcases hlook with ⟨hg,fq,fb,hf⟩ | ⟨hg,hf⟩
           ·by_cases hfr:y.frm=s.pl
            ·have hne:(y.frm == s.pl)=true:=by simpa using hfr
             have heo:endOn n x s lv q=some ⟨s.pl,s.mi,q,lv⟩:=by rw [endOn,hy];dsimp only;rw [if_pos ⟨hg,hfr⟩]
             rw [heo] at hY
             dsimp only at hY
             rw [List.cons_append] at hY
             repeat (first|refine nx ?_|(refine z3 fun K hK=>?_;simp only [go_sem,hy,List.getElem?_map,Path.row,c2,hf,Span.row];apply hK;clear hK K))
             refine z165 hG1 [] fun K hK=>?_
             simp only [go_sem,hne]
             refine⟨rfl,Y.length,_,rfl,rfl,rfl,z507 hY,?_,?_⟩
             ·simp only [go_sem]
              refine hK _ _ ?_
              clear hK K
              refine z4 rfl ?_
              repeat (first|refine nx ?_|(refine z3 fun K hK=>?_;simp only [go_sem,hkw];apply hK;clear hK K))
              refine⟨q + 1,?_,⟨hkl,Y++[⟨s.pl,s.mi,q,lv⟩],by simp,by rw [hY];simp⟩,by omega⟩
              try simp only [go_sem]
              refine weA ?_ ?_ <;> simp
             ·simp only [go_sem]
              refine hK _ _ ?_
              clear hK K
              refine z7 rfl ?_
              repeat (first|refine nx ?_|(refine z3 fun K hK=>?_;simp only [go_sem];apply hK;clear hK K))
              refine⟨rfl,(),?_,rfl,rfl⟩
              try simp only [go_sem]
              refine weA ?_ ?_ <;> simp
            ·have hne:(y.frm == s.pl)=false:=by simpa using hfr
             have heo:endOn n x s lv q=none:=by rw [endOn,hy];dsimp only;rw [if_neg (fun hc=>hfr hc.2)]
             rw [heo] at hY
             dsimp only at hY
             repeat (first|refine nx ?_|(refine z3 fun K hK=>?_;simp only [go_sem,hy,List.getElem?_map,Path.row,c2,hf,Span.row];apply hK;clear hK K))
             refine z165 hG1 [] fun K hK=>?_
             simp only [go_sem,hne]
             refine hK _ _ ?_
             clear hK K
             refine z4 rfl ?_
             repeat (first|refine nx ?_|(refine z3 fun K hK=>?_;simp only [go_sem,hkw];apply hK;clear hK K))
             refine⟨q + 1,?_,⟨hkl,Y,rfl,hY⟩,by omega⟩
             try simp only [go_sem]
             refine weA ?_ ?_ <;> simp
           ·have heo:endOn n x s lv q=none:=by rw [endOn,hy];dsimp only;rw [if_neg (fun hc=>hg hc.1)]
            rw [heo] at hY
            dsimp only at hY
            repeat (first|refine nx ?_|(refine z3 fun K hK=>?_;simp only [go_sem,hy,List.getElem?_map,Path.row,c2,hf];apply hK;clear hK K))
            refine z4 rfl ?_
            repeat (first|refine nx ?_|(refine z3 fun K hK=>?_;simp only [go_sem,hkw];apply hK;clear hK K))
            refine⟨q + 1,?_,⟨hkl,Y,rfl,hY⟩,by omega⟩
            try simp only [go_sem]
            refine weA ?_ ?_ <;> simp
          ·have he:q=n.paths.length:=by (have:¬ q<n.paths.length:=by simpa using hkb);omega
           subst he
           rw [Nat.sub_self,List.range'_zero,List.filterMap_nil,List.nil_append] at hY
           repeat (first|refine nx ?_|(refine z3 fun K hK=>?_;simp only [go_sem];apply hK;clear hK K))
           refine⟨(),?_,Y,rfl,by rw [hY,hV]⟩
           try simp only [go_sem]
           refine weA ?_ ?_ <;> simp
      ·rintro k' _ ⟨Y,rfl,hY⟩
       rw [minRows,List.length_map,List.drop_length,List.flatMap_nil,List.nil_append] at hY
       simp only [go_sem]
       repeat (first|refine nx ?_|(refine z3 fun K hK=>?_;simp only [go_sem,hw];apply hK;clear hK K))
       refine⟨i + 1,?_,⟨hlt,Y,rfl,by rw [hY,hZ]⟩,by omega⟩
       try simp only [go_sem]
       refine weA ?_ ?_ <;> simp
      ·rintro e k' _ ⟨rfl,rfl⟩ _
       repeat (first|refine z126 ?_|refine z148 ?_)
       exact⟨trivial,.inr rfl⟩
     ·rintro e k' _ ⟨rfl,rfl⟩ _
      repeat (first|refine z126 ?_|refine z148 ?_)
      exact⟨trivial,.inr rfl⟩
    ·have he:i=A.length:=by (have:¬ i<A.length:=by simpa using hb);omega
     subst he
     rw [List.drop_length,List.flatMap_nil,List.append_nil] at hX
     repeat (first|refine nx ?_|(refine z3 fun K hK=>?_;simp only [go_sem];apply hK;clear hK K))
     exact⟨trivial,.inl (by rw [hX,endRows,List.length_map])⟩
end Go.Ab
namespace Go.Ab
open Go.RowKit Go.Proofs
set_option maxHeartbeats 16000000
set_option maxRecDepth 20000
attribute [local irreducible] WalkL Walk
def posL (l:List Int):List Int:=selL (fun i=>decide (getI l i > 0)) l.length
theorem z1201 {q:Nat→Bool} {k:Nat} (h:selL q k=[]) {i:Nat} (hi:i<k):q i=false:=by
 cases hq:q i
 ·rfl
 ·exfalso
  have:(i:Int) ∈ selL q k:=List.mem_map.2 ⟨i,List.mem_filter.2 ⟨List.mem_range.2 hi,hq⟩,rfl⟩
  rw [h] at this
  simp at this
theorem z1268 (l:List Int) (hl:l.length<2 ^ 30) (hp:posL l=[]):Fn Tryd.prog 51 [.sl (intRows l)] .nilsl:=by
 have hrl:=z12 l
 refine z1248 20 Tryd.call51 Tryd.func51 rfl (by decide) fun J=>?_
 simp only [go_sem,St.start,Tryd.ntmps51,Tryd.results51]
 repeat (first|refine nx ?_|(refine z3 fun K hK=>?_;simp only [go_sem,hrl];apply hK;clear hK K))
 refine z13 (fun (i:Nat)=>[(7,.d (.i i)),(2,.nil)]) (fun _=>[]) (fun i=>i≤l.length) (fun i=>l.length - i) 0 ?_ (Nat.zero_le _) ?_
 ·simp only [go_sem]
  refine weA ?_ ?_ <;> simp
 ·intro i hi
  simp only [go_sem]
  repeat (first|refine nx ?_|(refine z3 fun K hK=>?_;simp only [go_sem];apply hK;clear hK K))
  refine z5 rfl (fun hb=>?_) (fun hb=>?_)
  ·have hlt:i<l.length:=by simpa using hb
   have hw:IntKind.i64.wrap ((i:Int) + 1)=((i + 1:Nat):Int):=by rw [z9 (by omega)];simp
   have hg:(intRows l)[i]?=some [.i (getI l i)]:=by simpa using z100 (l:=l) (i:=(i:Int)) (by omega) (by simpa using hlt)
   have hil:i<(intRows l).length:=by omega
   have hq:=z1201 hp hlt
   repeat (first|refine nx ?_|(refine z3 fun K hK=>?_;simp only [go_sem,hg,hil,hq];apply hK;clear hK K))
   refine z4 rfl ?_
   repeat (first|refine nx ?_|(refine z3 fun K hK=>?_;simp only [go_sem,hw];apply hK;clear hK K))
   refine⟨rfl,i + 1,?_,hlt,by omega⟩
   try simp only [go_sem]
   refine weA ?_ ?_ <;> simp
  ·have he:i=l.length:=by (have:¬ i<l.length:=by simpa using hb);omega
   subst he
   repeat (first|refine nx ?_|(refine z3 fun K hK=>?_;simp only [go_sem];apply hK;clear hK K))
   simp only [go_sem,retN]
theorem z1267 (l:List Int) (hl:l.length<2 ^ 30):FnS Tryd.prog 51 [.sl (intRows l)] 3 1 (intRows (posL l)):=by
 have hrl:=z12 l
 refine z251 24 Tryd.call51 Tryd.func51 rfl (by decide) fun J=>?_
 simp only [go_sem,St.start,Tryd.ntmps51,Tryd.results51,]
 repeat (first|refine nx ?_|(refine z3 fun K hK=>?_;simp only [go_sem,hrl];apply hK;clear hK K))
 refine z13 (fun (i:Nat)=>[(7,.d (.i i)),(2,.own 22)]) (fun i=>[(22,some (.arr 3 1 (intRows (selL (fun j=>decide (getI l j > 0)) i))))]) (fun i=>i≤l.length) (fun i=>l.length - i) 0 ?_ (Nat.zero_le _) ?_
 ·simp only [go_sem]
  refine z26 [22] ?_ ?_ ?_ ?_
  ·simp [lessT,z74,AV.less]
  ·simp [lessM,lessB,lessT,z74,AV.less,selL,intRows]
  ·first | rfl | simp [liveB,AV.refs,AV.refs.AV.refss,selL,intRows]
  ·first | rfl | simp [liveM,liveB,AV.refs,AV.refs.AV.refss,selL,intRows]
 ·intro i hi
  have hsl:=z1202 (fun j=>decide (getI l j > 0)) i
  have hs1:=z1114 (fun j=>decide (getI l j > 0)) i
  have hr39:(intRows (selL (fun j=>decide (getI l j > 0)) i)).length≤549755813887:=by rw [z12];omega
  simp only [go_sem]
  repeat (first|refine nx ?_|(refine z3 fun K hK=>?_;simp only [go_sem];apply hK;clear hK K))
  refine z5 rfl (fun hb=>?_) (fun hb=>?_)
  ·have hlt:i<l.length:=by simpa using hb
   have hw:IntKind.i64.wrap ((i:Int) + 1)=((i + 1:Nat):Int):=by rw [z9 (by omega)];simp
   have hg:(intRows l)[i]?=some [.i (getI l i)]:=by simpa using z100 (l:=l) (i:=(i:Int)) (by omega) (by simpa using hlt)
   have hil:i<(intRows l).length:=by omega
   by_cases hq:getI l i > 0
   ·have hq:decide (getI l i > 0)=true:=decide_eq_true hq
    rw [hq,if_pos rfl] at hs1
    repeat (first|refine nx ?_|(refine z3 fun K hK=>?_;simp only [go_sem,hg,hil,hq];apply hK;clear hK K))
    refine z7 rfl ?_
    repeat (first|refine nx ?_|(refine z3 fun K hK=>?_;simp only [go_sem,hr39,hw];apply hK;clear hK K))
    refine⟨rfl,i + 1,?_,hlt,by omega⟩
    try simp only [go_sem,hs1,intRows,List.map_append,List.map_cons,List.map_nil]
    refine weA ?_ ?_ <;> simp
   ·have hq:decide (getI l i > 0)=false:=decide_eq_false hq
    rw [hq] at hs1
    simp only [Bool.false_eq_true,if_false,List.append_nil] at hs1
    repeat (first|refine nx ?_|(refine z3 fun K hK=>?_;simp only [go_sem,hg,hil,hq];apply hK;clear hK K))
    refine z4 rfl ?_
    repeat (first|refine nx ?_|(refine z3 fun K hK=>?_;simp only [go_sem,hw];apply hK;clear hK K))
    refine⟨rfl,i + 1,?_,hlt,by omega⟩
    try simp only [go_sem,hs1]
    refine weA ?_ ?_ <;> simp
  ·have he:i=l.length:=by (have:¬ i<l.length:=by simpa using hb);omega
   subst he
   repeat (first|refine nx ?_|(refine z3 fun K hK=>?_;simp only [go_sem];apply hK;clear hK K))
   simp only [go_sem,posL]
end Go.Ab
namespace Go.Ab
open Go.RowKit Go.Proofs
set_option maxHeartbeats 16000000
set_option maxRecDepth 20000
attribute [local irreducible] WalkL Walk
def bump1 (l:List Int) (i:Int):List Int:=l.set i.toNat (wr (getI l i + 1))
def tally (a:List Int × List Int) (e:EndT):List Int × List Int:=if e.pa<0 then (bump1 a.1 e.pl,a.2) else (a.1,bump1 a.2 e.pa)
def tallyE (n:Net) (E:List EndT):List Int × List Int:=E.foldl tally (List.replicate n.places.toNat 0,List.replicate n.paths.length 0)
def huntedA (n:Net) (x:Missed):List Arv:=(followF n x (boundN n x + 1) 0 (startA x,[])).1
def whereP (n:Net) (x:Missed):List Int:=posL (tallyE n (endsL n x (huntedA n x))).1
def whereW (n:Net) (x:Missed):List Int:=posL (tallyE n (endsL n x (huntedA n x))).2
def whereC (n:Net) (x:Missed):List Int × List Int × Int :=
 if openX n x≠0 then ([],[],openX n x) else if whereP n x=[]∧whereW n x=[] then ([],[],3) else (whereP n x,whereW n x,0)
def whereD (n:Net) (x:Missed):DV:=.tup [.sl (intRows (whereC n x).1),.sl (intRows (whereC n x).2.1),.i (whereC n x).2.2]
theorem z1176 (l:List Int) (i:Int):(bump1 l i).length=l.length:=by simp [bump1]
theorem z614 (a:List Int × List Int) (e:EndT):(tally a e).1.length=a.1.length∧(tally a e).2.length=a.2.length:=by
 rw [tally];split <;> simp [z1176]
theorem z262:∀ (E:List EndT) (a:List Int × List Int),(E.foldl tally a).1.length=a.1.length∧(E.foldl tally a).2.length=a.2.length
 | [],a=>⟨rfl,rfl⟩
 | e::E,a=>by
  have h:=z262 E (tally a e)
  rw [(z614 a e).1,(z614 a e).2] at h
  exact h
theorem z912 {n:Net} {x:Missed} (hl:x.clues.length<2 ^ 30) (h:openX n x=0):Hunted n x:=by
 have hc:checkPartyF n x.party=0:=by
  rw [openX] at h
  split at h
  ·rename_i h1;exact absurd h h1
  ·rename_i h1;exact Classical.not_not.1 h1
 have hb:badHunt n x=false:=by
  cases hb:badHunt n x
  ·rfl
  ·simp [openX,hc,hb] at h
 have hn:¬ badNet n=true:=fun hb=>by rw [checkPartyF,if_pos hb] at hc;simp at hc
 have hp:¬ badParty x.party=true:=fun hb=>by rw [checkPartyF,if_neg hn,if_pos hb] at hc;simp at hc
 simp only [badHunt,Bool.or_eq_false_iff,Bool.not_eq_false',z22] at hb
 obtain⟨h1,h2,h3,h4⟩:=hb
 exact⟨z139.1 hn,z194.1 hp,⟨h1.1,by omega⟩,⟨h2.1,h4.1⟩,h4.2,h3,hl⟩
theorem z495 {n:Net} {x:Missed} {lo hi:Int} {mk:Int→Arv} (hmk:∀ t,(0≤(mk t).pl∧(mk t).pl<n.places)∧(mk t).mi=t):∀ {ws:List (Int × Bool)} {A:List Arv},(∀ w ∈ ws,x.start≤w.1∧w.1≤x.now)→goodA n x A→goodA n x (walkA x.clues lo hi mk ws A)
 | [],A,_,hA=>hA
 | w::ws,A,hw,hA=>by
  rw [walkA]
  split
  ·exact hA
  ·refine z495 hmk (fun v hv=>hw v (by simp [hv])) ?_
   split
   ·have:=hmk w.1
    exact z140 hA ⟨this.1,by rw [this.2];exact (hw w (by simp))⟩
   ·exact hA
theorem z1066 {n:Net} {x:Missed} (hx:Hunted n x) {p m lv:Int} {A:List Arv} {k:Nat} (hlv:x.start≤lv) (hA:goodA n x A):goodA n x (pathA n x p m lv A k):=by
 rw [pathA]
 split
 ·rename_i y hy
  split
  ·refine z495 (fun t=>⟨(hx.net.path y (List.mem_of_getElem? hy)).to,rfl⟩) (fun w hw=>?_) hA
   have:=z288 hw
   omega
  ·exact hA
 ·exact hA
theorem z925 {n:Net} {x:Missed} (hx:Hunted n x) {p m lv:Int} {a:List Arv × List Cnt} (hlv:x.start≤lv) (hA:goodA n x a.1):goodA n x (leaveA n x p m a lv).1:=by
 rw [leaveA]
 split
 ·exact hA
 ·rw [pathsA]
  have:∀ (l:List Nat) (A:List Arv),goodA n x A→goodA n x (l.foldl (pathA n x p m lv) A):=fun l=>by
   induction l with
   | nil=>exact fun A h=>h
   | cons k l ih=>exact fun A h=>ih _ (z1066 hx hlv h)
  exact this _ _ hA
theorem z1065 {n:Net} {x:Missed} (hx:Hunted n x) {s:Arv} {a:List Arv × List Cnt} (hs:x.start≤s.mi) (hA:goodA n x a.1):goodA n x (spotA n x s a).1:=by
 rw [spotA]
 have:∀ (l:List Int) (a:List Arv × List Cnt),(∀ v ∈ l,x.start≤v)→goodA n x a.1→goodA n x (l.foldl (leaveA n x s.pl s.mi) a).1:=fun l=>by
  induction l with
  | nil=>exact fun a _ h=>h
  | cons k l ih=>exact fun a hl h=>ih _ (fun v hv=>hl v (by simp [hv])) (z925 hx (hl k (by simp)) h)
 exact this _ _ (fun v hv=>by have:=z295 hv;omega) hA
theorem z305 {n:Net} {x:Missed} (hx:Hunted n x):∀ (f i:Nat) (a:List Arv × List Cnt),goodA n x a.1→goodA n x (followF n x f i a).1
 | 0,_,a,h=>h
 | f + 1,i,a,h=>by
  rw [followF]
  split
  ·rename_i s hs
   exact z305 hx f _ _ (z1065 hx (h.1 s (List.mem_of_getElem? hs)).2.1 h)
  ·exact h
theorem z926 {n:Net} {x:Missed} (hx:Hunted n x):goodA n x (huntedA n x) :=
 z305 hx _ _ _ (z140 ⟨fun a ha=>(by simp at ha),by simp⟩ ⟨hx.place,Int.le_refl _,hx.start.2⟩)
theorem z1072 {n:Net} {x:Missed} {A:List Arv} (hA:goodA n x A) {e:EndT} (h:e ∈ endsL n x A):(0≤e.pl∧e.pl<n.places)∧(e.pa<0∨0≤e.pa∧e.pa.toNat<n.paths.length):=by
 rw [endsL] at h
 obtain⟨s,hs,h⟩:=List.mem_flatMap.1 h
 have hg:=(hA.1 s hs).1
 rw [endOf8] at h
 rcases List.mem_append.1 h with h | h
 ·obtain⟨m,_,hm⟩:=List.mem_filterMap.1 h
  rw [endIn] at hm
  split at hm
  ·cases hm;exact⟨hg,.inl (show (-1:Int)<0 by decide)⟩
  ·cases hm
 ·obtain⟨lv,_,hm⟩:=List.mem_flatMap.1 h
  rw [endLv] at hm
  split at hm
  ·simp at hm
  ·obtain⟨k,hk,hm⟩:=List.mem_filterMap.1 hm
   rw [endOn] at hm
   split at hm
   ·split at hm
    ·cases hm;exact⟨hg,.inr ⟨Int.natCast_nonneg k,by simpa using List.mem_range.1 hk⟩⟩
    ·cases hm
   ·cases hm
theorem z1126 {h:DV} {A:List Arv}:∃ b,reify ((trkM h A).map some) Ab.deep (.box 0 0)=some (.ptr [h,b,.sl (arvRows A)] 0):=by
 refine⟨_,rfl⟩
theorem z1444 (n:Net) (x:Missed) (hs:n.Small) (hl:x.clues.length<2 ^ 30):Fn Tryd.prog 15 [.agg n.cells,.agg x.row] (whereD n x):=by
 have h38:=z1431 n x hs hl
 rw [Net.cells,Missed.row] at h38
 refine z10 61 Tryd.call15 Tryd.func15 rfl (by decide) fun J=>?_
 simp only [go_sem,St.start,Tryd.ntmps15,Tryd.results15,Net.cells,Missed.row]
 by_cases hok:openX n x=0
 ·have hx:=z912 hl hok
  rw [openD,if_pos hok,hok] at h38
  obtain⟨A,hA⟩:∃ A,A=huntedA n x:=⟨_,rfl⟩
  have hgA:goodA n x A:=hA ▸ z926 hx
  have g39:=z1430 n x hx
  rw [← huntedA,← hA] at g39
  obtain⟨b,hb⟩:=z1126 (h:=.ptr (huntC n x) 0) (A:=A)
  have h39:=FnG.deep (args:=[.ptr (huntC n x) 0]) g39 hb
  have hit:=z1336 n x hx A b hgA
  have hpl:=hx.net.places
  have hpt:=hx.net.paths
  repeat (first|refine nx ?_|(refine z3 fun K hK=>?_;simp only [go_sem];(repeat (first|(refine⟨_,.lent (hf:=h38) (hd:=rfl) (hr:=rfl),?_⟩;simp only [go_sem])|(refine⟨_,.given (hf:=h38) (hd:=rfl) (ha:=rfl),?_⟩;simp only [go_sem])));apply hK;clear hK K))
  refine z4 rfl ?_
  repeat (first|refine nx ?_|(refine z3 fun K hK=>?_;simp only [go_sem];apply hK;clear hK K))
  obtain⟨m,hm⟩:∃ m:Nat,n.places=m:=⟨n.places.toNat,by omega⟩
  obtain⟨E,hE⟩:∃ E,E=endsL n x A:=⟨_,rfl⟩
  rw [← hE] at hit
  have hrep:∀ k,List.replicate k [DV.int .i64 0]=intRows (List.replicate k 0):=fun k=>by simp [intRows]
  have q1:(m:Int)≤1099511627776:=by omega
  have q2:(n.paths.length:Int)≤1099511627776:=by omega
  have q3:¬ ((m:Int)<0):=by omega
  refine z8 (by kernel_rfl) (by kernel_rfl) fun K hK=>?_
  simp only [go_sem,hm,q1,q2,q3,hrep,List.length_map,true_and]
  refine⟨by kernel_rfl,hK _ ?_⟩
  clear hK K
  repeat (first|refine nx ?_|(refine z3 fun K hK=>?_;simp only [go_sem];(repeat (first|(refine⟨_,.lent (hf:=h39) (hd:=rfl) (hr:=rfl),?_⟩;simp only [go_sem])|(refine⟨_,.given (hf:=h39) (hd:=rfl) (ha:=rfl),?_⟩;simp only [go_sem])));apply hK;clear hK K))
  refine z183 rfl hit (by intro row hr;obtain⟨w,_,rfl⟩:=List.mem_map.1 hr;rfl) (fun _=>[]) (fun (a:List Int × List Int)=>[(22,some (.arr 3 1 (intRows a.1))),(26,some (.arr 3 1 (intRows a.2)))])
   (fun k' j a=>k'=some 0∧a=(E.take j).foldl tally (List.replicate m 0,List.replicate n.paths.length 0)) (fun _ _ _=>False) (List.replicate m 0,List.replicate n.paths.length 0) ?_ ⟨rfl,by simp⟩ ?_ ?_ (fun _ _ _ h=>h.elim)
  ·simp only [go_sem]
   refine weA ?_ ?_ <;> simp
  ·rintro X0 W0 k' j a row hj ⟨rfl,ha⟩ l1 m1
   obtain⟨e,he,rfl⟩:∃ e,E[j]?=some e∧row=[.agg e.row]:=by
    simp only [endRows,List.getElem?_map,Option.map_eq_some_iff] at hj
    obtain⟨e,h1,h2⟩:=hj
    exact⟨e,h1,h2.symm⟩
   have hr:=z1072 hgA (hE ▸ List.mem_of_getElem? he)
   have ha':(E.take (j + 1)).foldl tally (List.replicate m 0,List.replicate n.paths.length 0)=tally a e:=by rw [z24 _ _ _ _ _ he,← ha]
   have hl:=z262 (E.take j) (List.replicate m 0,List.replicate n.paths.length 0)
   rw [← ha] at hl
   simp only [List.length_replicate] at hl
   have hil:=z12 a.1
   have hil2:=z12 a.2
   rw [hl.1] at hil
   rw [hl.2] at hil2
   simp only [go_sem,EndT.row]
   by_cases hp:e.pa<0
   ·have hpb:decide (e.pa<0)=true:=decide_eq_true hp
    have h0:0≤e.pl:=hr.1.1
    have h1:e.pl.toNat<m:=by omega
    have hg:=z100 (l:=a.1) (i:=e.pl) hr.1.1 (by omega)
    repeat (first|refine nx ?_|(refine z3 fun K hK=>?_;simp only [go_sem,hpb];apply hK;clear hK K))
    refine z7 rfl ?_
    repeat (first|refine nx ?_|(refine z3 fun K hK=>?_;simp only [go_sem,hil,h0,h1,hg,z39];apply hK;clear hK K))
    refine⟨(bump1 a.1 e.pl,a.2),?_,rfl,by rw [ha',tally,if_pos hp]⟩
    rw [bump1]
    refine weA ?_ ?_ <;> simp
   ·have hpb:decide (e.pa<0)=false:=decide_eq_false hp
    have h0:0≤e.pa:=by omega
    have h1:e.pa.toNat<n.paths.length:=by rcases hr.2 with h | h <;> omega
    have hg:=z100 (l:=a.2) (i:=e.pa) (by omega) (by omega)
    repeat (first|refine nx ?_|(refine z3 fun K hK=>?_;simp only [go_sem,hpb];apply hK;clear hK K))
    refine z4 rfl ?_
    repeat (first|refine nx ?_|(refine z3 fun K hK=>?_;simp only [go_sem,hil2,h0,h1,hg,z39];apply hK;clear hK K))
    refine⟨(a.1,bump1 a.2 e.pa),?_,rfl,by rw [ha',tally,if_neg hp]⟩
    rw [bump1]
    refine weA ?_ ?_ <;> simp
  ·rintro k' a ⟨rfl,ha⟩
   rw [endRows,List.length_map,List.take_length] at ha
   have ht:tallyE n (endsL n x (huntedA n x))=a:=by rw [tallyE,← hA,← hE,ha,hm];rfl
   have hl:=z262 E (List.replicate m 0,List.replicate n.paths.length 0)
   rw [← ha] at hl
   simp only [List.length_replicate] at hl
   have hP:whereP n x=posL a.1:=by rw [whereP,ht]
   have hW:whereW n x=posL a.2:=by rw [whereW,ht]
   simp only [go_sem]
   repeat (first|refine z34 ?_|refine z61 ?_|refine z11 ?_|refine z232 ?_|refine z95 ?_|refine z70 ?_|refine z142 rfl ?_|refine z126 ?_|refine z76 ?_|refine z148 ?_|refine z97 ?_|refine z6 ?_)
   have nz:∀ l:List Int,l≠[]→(intRows l).isEmpty=false:=fun l h=>by cases l <;> simp_all [intRows]
   by_cases p1:posL a.1=[]
   ·have zf1:=z1268 a.1 (by omega) p1
    by_cases p2:posL a.2=[]
    ·have zf2:=z1268 a.2 (by omega) p2
     have hw:whereD n x=.tup [.sl [],.sl [],.i 3]:=by rw [whereD,whereC,if_neg (fun h=>h hok),if_pos ⟨by rw [hP,p1],by rw [hW,p2]⟩];rfl
     rw [hw]
     refine z8 (by kernel_rfl) (by kernel_rfl) fun K hK=>?_
     simp only [go_sem]
     refine⟨_,.fn (hf:=zf1) (hd:=rfl) (hr:=.inl rfl),?_⟩
     simp only [go_sem]
     refine⟨_,.fn (hf:=zf2) (hd:=rfl) (hr:=.inl rfl),?_⟩
     simp only [go_sem]
     refine⟨by kernel_rfl,hK _ ?_⟩
     clear hK K
     repeat (first|refine nx ?_|(refine z3 fun K hK=>?_;simp only [go_sem];apply hK;clear hK K))
     refine z7 rfl ?_
     repeat (first|refine nx ?_|(refine z3 fun K hK=>?_;simp only [go_sem];apply hK;clear hK K))
     simp only [go_sem,retN]
    ·have zf2:=z1267 a.2 (by omega)
     have hw:whereD n x=.tup [.sl [],.sl (intRows (posL a.2)),.i 0]:=by rw [whereD,whereC,if_neg (fun h=>h hok),if_neg (fun h=>p2 (by rw [← hW,h.2])),hP,p1,hW];rfl
     rw [hw]
     refine z8 (by kernel_rfl) (by kernel_rfl) fun K hK=>?_
     simp only [go_sem]
     refine⟨_,.fn (hf:=zf1) (hd:=rfl) (hr:=.inl rfl),?_⟩
     simp only [go_sem]
     refine⟨_,.fnS (hdst:=rfl) (hf:=zf2) (hd:=rfl) (hr:=.inl (z109 _)) (hfr:=rfl),?_⟩
     simp only [go_sem]
     refine⟨by kernel_rfl,hK _ ?_⟩
     clear hK K
     refine z71 [52] ?_
     simp only [go_sem]
     repeat (first|refine nx ?_|(refine z3 fun K hK=>?_;simp only [go_sem,nz _ p2];apply hK;clear hK K))
     refine z4 rfl ?_
     refine z61 ?_
     refine z457 4 ?_
     simp only [go_sem]
     repeat (first|refine nx ?_|(refine z3 fun K hK=>?_;simp only [go_sem];apply hK;clear hK K))
     simp only [go_sem,retN]
   ·have zf1:=z1267 a.1 (by omega)
    by_cases p2:posL a.2=[]
    ·have zf2:=z1268 a.2 (by omega) p2
     have hw:whereD n x=.tup [.sl (intRows (posL a.1)),.sl [],.i 0]:=by rw [whereD,whereC,if_neg (fun h=>h hok),if_neg (fun h=>p1 (by rw [← hP,h.1])),hP,hW,p2];rfl
     rw [hw]
     refine z8 (by kernel_rfl) (by kernel_rfl) fun K hK=>?_
     simp only [go_sem]
     refine⟨_,.fnS (hdst:=rfl) (hf:=zf1) (hd:=rfl) (hr:=.inl (z109 _)) (hfr:=rfl),?_⟩
     simp only [go_sem]
     refine⟨_,.fn (hf:=zf2) (hd:=rfl) (hr:=.inl rfl),?_⟩
     simp only [go_sem]
     refine⟨by kernel_rfl,hK _ ?_⟩
     clear hK K
     refine z71 [50] ?_
     simp only [go_sem]
     repeat (first|refine nx ?_|(refine z3 fun K hK=>?_;simp only [go_sem,nz _ p1];apply hK;clear hK K))
     refine z4 rfl ?_
     refine z61 ?_
     refine z457 5 ?_
     simp only [go_sem]
     repeat (first|refine nx ?_|(refine z3 fun K hK=>?_;simp only [go_sem];apply hK;clear hK K))
     simp only [go_sem,retN]
    ·have zf2:=z1267 a.2 (by omega)
     have hw:whereD n x=.tup [.sl (intRows (posL a.1)),.sl (intRows (posL a.2)),.i 0]:=by rw [whereD,whereC,if_neg (fun h=>h hok),if_neg (fun h=>p1 (by rw [← hP,h.1])),hP,hW]
     rw [hw]
     refine z8 (by kernel_rfl) (by kernel_rfl) fun K hK=>?_
     simp only [go_sem]
     refine⟨_,.fnS (hdst:=rfl) (hf:=zf1) (hd:=rfl) (hr:=.inl (z109 _)) (hfr:=rfl),?_⟩
     simp only [go_sem]
     refine⟨_,.fnS (hdst:=rfl) (hf:=zf2) (hd:=rfl) (hr:=.inl (z109 _)) (hfr:=rfl),?_⟩
     simp only [go_sem]
     refine⟨by kernel_rfl,hK _ ?_⟩
     clear hK K
     refine z71 [50,52] ?_
     simp only [go_sem]
     repeat (first|refine nx ?_|(refine z3 fun K hK=>?_;simp only [go_sem,nz _ p1,nz _ p2];apply hK;clear hK K))
     refine z4 rfl ?_
     repeat (first|refine nx ?_|(refine z3 fun K hK=>?_;simp only [go_sem];apply hK;clear hK K))
     simp only [go_sem,retN]
 ·rw [openD,if_neg hok] at h38
  have hne:(openX n x != 0)=true:=by simpa using hok
  have hw:whereD n x=.tup [.sl [],.sl [],.i (openX n x)]:=by rw [whereD,whereC,if_pos hok];rfl
  rw [hw]
  repeat (first|refine nx ?_|(refine z3 fun K hK=>?_;simp only [go_sem,hne];(repeat (first|(refine⟨_,.lent (hf:=h38) (hd:=rfl) (hr:=rfl),?_⟩;simp only [go_sem,hne])|(refine⟨_,.given (hf:=h38) (hd:=rfl) (ha:=rfl),?_⟩;simp only [go_sem,hne])));apply hK;clear hK K))
  refine z7 rfl ?_
  repeat (first|refine nx ?_|(refine z3 fun K hK=>?_;simp only [go_sem];apply hK;clear hK K))
  simp only [go_sem,retN]
end Go.Ab
namespace Go.Ab
open Go.RowKit Go.Proofs
set_option maxRecDepth 100000
deriving instance DecidableEq for Arv
deriving instance DecidableEq for Cnt
def goF (n:Net) (x:Missed):Nat→Nat→List Arv × List Cnt→List Arv × List Cnt
 | 0,_,a=>a
 | k + 1,i,a=>match a.1[i]? with
  | some s=>goF n x k (i + 1) (spotA n x s a)
  | none=>a
theorem z306 {n:Net} {x:Missed} {i:Nat} {a:List Arv × List Cnt} (h:a.1[i]?=none):∀ f,followF n x f i a=a
 | 0=>rfl
 | f + 1=>by rw [followF,h]
theorem z37 {n:Net} {x:Missed}:∀ (k i f:Nat) (a:List Arv × List Cnt),followF n x (f + k) i a=followF n x f (i + k) (goF n x k i a)
 | 0,i,f,a=>rfl
 | k + 1,i,f,a=>by
  rw [show f + (k + 1)=(f + k) + 1 by omega,followF,goF]
  cases h:a.1[i]? with
  | some s=>dsimp only;rw [z37 k (i + 1) f,show i + 1 + k=i + (k + 1) by omega]
  | none=>dsimp only;rw [z306 (List.getElem?_eq_none (by have:=List.getElem?_eq_none_iff.1 h;omega))]
def runX8 (n:Nat) (a d:Arv):List Arv:=(List.range n).map fun (i:Nat)=>⟨a.pl + i * d.pl,a.mi + i * d.mi,a.fp + i * d.fp,a.fm + i * d.fm,a.pa + i * d.pa,a.lv + i * d.lv⟩
def runN8 (l:List (Nat × Int × Int)):List Int:=l.flatMap fun r=>(List.range r.1).map fun (i:Nat)=>r.2.1 + i * r.2.2
def exA:List Arv:=runX8 1 ⟨0,300,0,0,-1,0⟩ ⟨0,0,0,0,0,0⟩++runX8 21 ⟨1,400,0,300,0,300⟩ ⟨0,1,0,0,0,0⟩++runX8 8 ⟨2,492,1,400,1,420⟩ ⟨0,1,0,0,0,0⟩++runX8 55 ⟨2,501,1,400,1,420⟩ ⟨0,1,0,0,0,0⟩++runX8 4 ⟨2,556,1,400,1,421⟩ ⟨0,1,0,0,0,1⟩++runX8 8 ⟨3,552,2,492,2,492⟩ ⟨0,1,0,0,0,1⟩
def exK:List (Int × Int):=(runN8 [(31,0,0),(51,1,0),(8,2,0),(59,2,0),(38,3,0)]).zip (runN8 [(31,300,1),(51,400,1),(8,492,1),(59,501,1),(38,552,1)])
def exC (l:List (Nat × Int × Int)):List Cnt:=(exK.zip (runN8 l)).map fun q=>⟨q.1.1,q.1.2,q.2⟩
def ex0:List Arv × List Cnt:=(exA.take 1,exC [])
def ex8:List Arv × List Cnt:=(exA.take 89,exC [(32,1,0),(6,2,1),(24,7,0),(6,6,-1)])
def ex16:List Arv × List Cnt:=(exA.take 89,exC [(32,1,0),(14,2,1),(16,15,0),(14,14,-1)])
def ex24:List Arv × List Cnt:=(exA.take 97,exC [(32,1,0),(20,2,1),(10,21,0),(20,20,-1),(1,1,0),(7,2,0)])
def ex32:List Arv × List Cnt:=(exA.take 97,exC [(32,1,0),(20,2,1),(10,21,0),(20,20,-1),(8,1,1),(1,1,0),(30,2,0),(1,1,0)])
def ex40:List Arv × List Cnt:=(exA.take 97,exC [(32,1,0),(20,2,1),(10,21,0),(20,20,-1),(8,1,1),(10,1,1),(21,10,0),(9,9,-1)])
def ex48:List Arv × List Cnt:=(exA.take 97,exC [(32,1,0),(20,2,1),(10,21,0),(20,20,-1),(8,1,1),(18,1,1),(13,18,0),(17,17,-1)])
def ex56:List Arv × List Cnt:=(exA.take 97,exC [(32,1,0),(20,2,1),(10,21,0),(20,20,-1),(8,1,1),(26,1,1),(5,26,0),(25,25,-1)])
def ex64:List Arv × List Cnt:=(exA.take 97,exC [(32,1,0),(20,2,1),(10,21,0),(20,20,-1),(8,1,1),(31,1,1),(3,31,0),(25,30,-1)])
def ex72:List Arv × List Cnt:=(exA.take 97,exC [(32,1,0),(20,2,1),(10,21,0),(20,20,-1),(8,1,1),(31,1,1),(11,31,0),(17,30,-1)])
def ex80:List Arv × List Cnt:=(exA.take 97,exC [(32,1,0),(20,2,1),(10,21,0),(20,20,-1),(8,1,1),(31,1,1),(19,31,0),(9,30,-1)])
def ex88:List Arv × List Cnt:=(exA.take 97,exC [(32,1,0),(20,2,1),(10,21,0),(20,20,-1),(8,1,1),(31,1,1),(27,31,0),(1,30,0)])
def ex96:List Arv × List Cnt:=(exA.take 97,exC [(32,1,0),(20,2,1),(10,21,0),(20,20,-1),(8,1,1),(31,1,1),(28,31,0),(7,1,1),(24,7,0),(6,6,-1)])
def ex104:List Arv × List Cnt:=(exA.take 97,exC [(32,1,0),(20,2,1),(10,21,0),(20,20,-1),(8,1,1),(31,1,1),(28,31,0),(8,1,1),(23,8,0),(7,7,-1)])
theorem z1447:goF exN exM 8 0 ex0=ex8:=by decide +kernel
theorem z1397:goF exN exM 8 8 ex8=ex16:=by decide +kernel
theorem z1396:goF exN exM 8 16 ex16=ex24:=by decide +kernel
theorem z1395:goF exN exM 8 24 ex24=ex32:=by decide +kernel
theorem z1394:goF exN exM 8 32 ex32=ex40:=by decide +kernel
theorem z1393:goF exN exM 8 40 ex40=ex48:=by decide +kernel
theorem z1392:goF exN exM 8 48 ex48=ex56:=by decide +kernel
theorem z1391:goF exN exM 8 56 ex56=ex64:=by decide +kernel
theorem z1390:goF exN exM 8 64 ex64=ex72:=by decide +kernel
theorem z1389:goF exN exM 8 72 ex72=ex80:=by decide +kernel
theorem z1388:goF exN exM 8 80 ex80=ex88:=by decide +kernel
theorem z1387:goF exN exM 8 88 ex88=ex96:=by decide +kernel
theorem z1343:goF exN exM 8 96 ex96=ex104:=by decide +kernel
theorem z1250:startA exM=ex0.1:=by decide +kernel
theorem z1162:huntedA exN exM=ex104.1:=by
 rw [huntedA,show boundN exN exM + 1=1101 + 8 + 8 + 8 + 8 + 8 + 8 + 8 + 8 + 8 + 8 + 8 + 8 + 8 by decide +kernel,z1250,show (ex0.1,([]:List Cnt))=ex0 from rfl]
 rw [z37 8 0,z1447,show 0 + 8=8 from rfl]
 rw [z37 8 8,z1397,show 8 + 8=16 from rfl]
 rw [z37 8 16,z1396,show 16 + 8=24 from rfl]
 rw [z37 8 24,z1395,show 24 + 8=32 from rfl]
 rw [z37 8 32,z1394,show 32 + 8=40 from rfl]
 rw [z37 8 40,z1393,show 40 + 8=48 from rfl]
 rw [z37 8 48,z1392,show 48 + 8=56 from rfl]
 rw [z37 8 56,z1391,show 56 + 8=64 from rfl]
 rw [z37 8 64,z1390,show 64 + 8=72 from rfl]
 rw [z37 8 72,z1389,show 72 + 8=80 from rfl]
 rw [z37 8 80,z1388,show 80 + 8=88 from rfl]
 rw [z37 8 88,z1387,show 88 + 8=96 from rfl]
 rw [z37 8 96,z1343,show 96 + 8=104 from rfl]
 rw [z306 (show ex104.1[104]?=none by decide +kernel)]
theorem z215 {α β γ:Type} (g:γ→β→γ) (f:α→List β):∀ (l:List α) (c:γ),(l.flatMap f).foldl g c=l.foldl (fun c a=>(f a).foldl g c) c
 | [],c=>rfl
 | a::l,c=>by rw [List.flatMap_cons,List.foldl_append,z215 g f l,List.foldl_cons]
theorem z1195:tallyE exN (endsL exN exM (huntedA exN exM))=([0,0,0,8],[0,0,0,0,212]):=by
 rw [z1162,tallyE,endsL,z215]
 decide +kernel
end Go.Ab
namespace Go.Ab
open Go.RowKit Go.Proofs
set_option maxHeartbeats 8000000
set_option maxRecDepth 20000
attribute [local irreducible] WalkL Walk
theorem z1278:openX exN exM=0:=by decide +kernel
theorem z1218:posL [0,0,0,8]=[3]:=by decide +kernel
theorem z1217:posL [0,0,0,0,212]=[4]:=by decide +kernel
theorem z1187:whereC exN exM=([3],[4],0):=by
 rw [whereC,if_neg (by rw [z1278];simp),whereP,whereW,z1195,z1218,z1217,if_neg (by simp)]
end Go.Ab
namespace Go.Ab
open Go.RowKit Go.Proofs
set_option maxHeartbeats 8000000
set_option maxRecDepth 20000
attribute [local irreducible] WalkL Walk
theorem z1362 (a b:List Int) (ha:a.length<2 ^ 30):Fn Tryd.prog 47 [.sl (intRows a),.sl (intRows b)] (.bool (decide (a=b))):=by
 refine z10 26 Tryd.call47 Tryd.func47 rfl (by decide) fun J=>?_
 simp only [go_sem,St.start,Tryd.ntmps47,Tryd.results47]
 repeat (first|refine nx ?_|(refine z3 fun K hK=>?_;simp only [go_sem,z12];apply hK;clear hK K))
 by_cases hl:a.length=b.length
 ·have hne:((a.length:Int) != (b.length:Int))=false:=by simp [hl]
  simp only [go_sem,hne]
  refine z4 rfl ?_
  repeat (first|refine nx ?_|(refine z3 fun K hK=>?_;simp only [go_sem];apply hK;clear hK K))
  refine z13 (fun (i:Nat)=>[(5,.d (.i i))]) (fun _=>[]) (fun i=>i≤a.length∧a.take i=b.take i) (fun i=>a.length - i) 0 ?_ ⟨Nat.zero_le _,by simp⟩ ?_
  ·simp only [go_sem]
   refine weA ?_ ?_ <;> simp
  ·intro i ⟨hi,heq⟩
   simp only [go_sem]
   repeat (first|refine nx ?_|(refine z3 fun K hK=>?_;simp only [go_sem,z12];apply hK;clear hK K))
   refine z5 rfl (fun hb=>?_) (fun hb=>?_)
   ·have hlt:i<a.length:=by simpa using hb
    have hw:IntKind.i64.wrap ((i:Int) + 1)=((i + 1:Nat):Int):=by rw [z9 (by omega)];simp
    obtain⟨x,hx⟩:∃ x,a[i]?=some x:=⟨_,List.getElem?_eq_getElem hlt⟩
    obtain⟨y,hy⟩:∃ y,b[i]?=some y:=⟨_,List.getElem?_eq_getElem (hl ▸ hlt)⟩
    have g1:=z85 hx
    have g2:=z85 hy
    repeat (first|refine nx ?_|(refine z3 fun K hK=>?_;simp only [go_sem];apply hK;clear hK K))
    refine z8 (by kernel_rfl) (by kernel_rfl) fun K hK=>?_
    simp only [go_sem,g1,g2]
    refine⟨by kernel_rfl,hK _ ?_⟩
    clear hK K
    refine z5 rfl (fun hc=>?_) (fun hc=>?_)
    ·have hc:¬ x=y:=by simpa using hc
     have hab:¬ a=b:=by rintro rfl;rw [hx] at hy;cases hy;exact hc rfl
     repeat (first|refine nx ?_|(refine z3 fun K hK=>?_;simp only [go_sem];apply hK;clear hK K))
     simp only [go_sem,hab]
    ·have hc:x=y:=by simpa using hc
     repeat (first|refine nx ?_|(refine z3 fun K hK=>?_;simp only [go_sem,hw];apply hK;clear hK K))
     refine⟨rfl,i + 1,?_,⟨hlt,by rw [List.take_add_one,List.take_add_one,heq,hx,hy,hc]⟩,by omega⟩
     refine weA ?_ ?_ <;> simp
   ·have he:i=a.length:=by (have:¬ i<a.length:=by simpa using hb);omega
    subst he
    have hab:a=b:=z356 hl heq
    repeat (first|refine nx ?_|(refine z3 fun K hK=>?_;simp only [go_sem];apply hK;clear hK K))
    simp only [go_sem,hab]
 ·have hne:((a.length:Int) != (b.length:Int))=true:=by simp;omega
  have hab:¬ a=b:=by rintro rfl;exact hl rfl
  simp only [go_sem,hne]
  refine z7 rfl ?_
  repeat (first|refine nx ?_|(refine z3 fun K hK=>?_;simp only [go_sem];apply hK;clear hK K))
  simp only [go_sem,hab]
def exS:List SpotT:=[⟨3,50,60⟩,⟨1,30,20⟩,⟨2,20,40⟩]
def exW:List (List Int):=[[0,120,255,315],[435,0,135,195],[300,420,0,60],[240,360,495,0]]
def ordB (F:Mat) (S:List SpotT):Nat→Nat→Nat→MemB→Bool
 | 0,_,s,_=>s == 0
 | f + 1,p,s,m=>s == 0 || (elems s).any fun i=>decide ((bestM F S 5 p s m).1.2=(i:Int)) && ordB F S f (nextP S i) (s - 2 ^ i) (bestM F S 5 p s m).2
theorem z1133 {F:Mat} {S:List SpotT}:∀ (f p s:Nat) (m:MemB),ordB F S f p s m=true→OrdOk F S f p s m
 | 0,_,_,_,h=>by simpa [ordB,OrdOk] using h
 | f + 1,p,s,m,h=>by
  rw [ordB,Bool.or_eq_true,beq_iff_eq,List.any_eq_true] at h
  rcases h with h | ⟨i,hi,h⟩
  ·exact .inl h
  ·rw [Bool.and_eq_true,decide_eq_true_eq] at h
   exact .inr ⟨i,hi,h.1,z1133 f _ _ _ h.2⟩
theorem z1305:exN.Good:=z139.1 fun hb=>by
 have hok:checkPartyF exN exP=0:=by decide +kernel
 rw [checkPartyF,if_pos hb] at hok;simp at hok
theorem z1303:allLL exN exP=exW:=by decide +kernel
theorem z1345:matM exN.places.toNat (allM exN exP)=matM exN.places.toNat (getL exW):=by
 rw [← z1310 exP z1305,z1303]
 decide +kernel
theorem z1344:ordB (getL exW) exS 5 0 (fullN exS) (bestP (getL exW) exS 0).2=true:=by decide +kernel
theorem z1304:planC exN exP (getL exW) 0 exS=([1,2,0],32250,0):=by decide +kernel
theorem z1445:Fn Tryd.prog 14 [] (.bool true):=by
 have h46:=z1432
 have h15:=z1444 exN exM z964 (by decide)
 have h21:=z1442 exN exP (getL exW) 0 exS z964 (.inl (by decide)) (by decide) (fun _=>z1345) (fun _ _=>z1133 _ _ _ _ z1344)
 have h47:=z1362 [3] [3] (by decide)
 have h48:=z1362 [4] [4] (by decide)
 have h49:=z1362 [1,2,0] [1,2,0] (by decide)
 rw [whereD,z1187] at h15
 rw [planD,z1304] at h21
 rw [Missed.row,exM] at h15 h46
 rw [exSpots] at h46
 simp only [exS,intRows,SpotT.row,List.map_cons,List.map_nil,decide_true] at h15 h21 h47 h48 h49
 obtain⟨N,hN⟩:∃ N,N=exN:=⟨_,rfl⟩
 obtain⟨p,hp⟩:∃ p,p=exP:=⟨_,rfl⟩
 rw [← hN,← hp] at *
 rw [Net.cells] at *
 rw [Party.cells] at *
 refine z10 56 Tryd.call14 Tryd.func14 rfl (by decide) fun J=>?_
 simp only [go_sem,St.start,Tryd.ntmps14,Tryd.results14,]
 repeat (first|refine nx ?_|(refine z3 fun K hK=>?_;simp only [go_sem];(repeat (first|(refine⟨_,.lent (hf:=h46) (hd:=rfl) (hr:=rfl),?_⟩;simp only [go_sem])|(refine⟨_,.lent (hf:=h15) (hd:=rfl) (hr:=rfl),?_⟩;simp only [go_sem])|(refine⟨_,.lent (hf:=h21) (hd:=rfl) (hr:=rfl),?_⟩;simp only [go_sem])|(refine⟨_,.lent (hf:=h47) (hd:=rfl) (hr:=rfl),?_⟩;simp only [go_sem])|(refine⟨_,.lent (hf:=h48) (hd:=rfl) (hr:=rfl),?_⟩;simp only [go_sem])|(refine⟨_,.lent (hf:=h49) (hd:=rfl) (hr:=rfl),?_⟩;simp only [go_sem])|(refine⟨_,.given (hf:=h46) (hd:=rfl) (ha:=rfl),?_⟩;simp only [go_sem])|(refine⟨_,.given (hf:=h15) (hd:=rfl) (ha:=rfl),?_⟩;simp only [go_sem])|(refine⟨_,.given (hf:=h21) (hd:=rfl) (ha:=rfl),?_⟩;simp only [go_sem])|(refine⟨_,.given (hf:=h47) (hd:=rfl) (ha:=rfl),?_⟩;simp only [go_sem])|(refine⟨_,.given (hf:=h48) (hd:=rfl) (ha:=rfl),?_⟩;simp only [go_sem])|(refine⟨_,.given (hf:=h49) (hd:=rfl) (ha:=rfl),?_⟩;simp only [go_sem])));apply hK;clear hK K))
 simp only [go_sem]
end Go.Ab
namespace Go.Ab
open Go.RowKit Go.Proofs
set_option maxHeartbeats 4000000
set_option maxRecDepth 20000
attribute [local irreducible] WalkL Walk
theorem z1349 (n lo hi:Int):Fn Tryd.prog 42 [.i n,.i lo,.i hi] (.bool (withinB n lo hi)):=by
 refine z10 15 Tryd.call42 Tryd.func42 rfl (by decide) fun J=>?_
 simp only [go_sem,St.start,Tryd.ntmps42,Tryd.results42]
 by_cases h:lo≤n
 ·repeat (first|refine nx ?_|(refine z3 fun K hK=>?_;simp only [go_sem,h,ge_iff_le];apply hK;clear hK K))
  simp only [go_sem,withinB,h]
 ·repeat (first|refine nx ?_|(refine z3 fun K hK=>?_;simp only [go_sem,h,ge_iff_le];apply hK;clear hK K))
  simp only [go_sem,withinB,h]
def farM (n:Net):Bool:=decide ((n.paths.length:Int) > 60) || (n.paths.any (fun x=>decide ((x.opens.length:Int) > 20)) || (!badNet n && (decide (n.places > 5) || decide ((n.paths.length:Int) > 8))))
theorem z1441 (n:Net) (hs:n.Small):Fn Tryd.prog 22 [.agg n.cells] (.bool (farM n)):=by
 have h27:=z1359 n hs
 have hb0:=hs.paths
 refine z10 37 Tryd.call22 Tryd.func22 rfl (by decide) fun J=>?_
 simp only [go_sem,St.start,Tryd.ntmps22,Tryd.results22,Net.cells]
 repeat (first|refine nx ?_|(refine z3 fun K hK=>?_;simp only [go_sem];apply hK;clear hK K))
 refine z5 rfl (fun hc=>?_) (fun hc=>?_)
 ·repeat (first|refine nx ?_|(refine z3 fun K hK=>?_;simp only [go_sem];apply hK;clear hK K))
  simp only [go_sem,farM,hc]
 ·repeat (first|refine nx ?_|(refine z3 fun K hK=>?_;simp only [go_sem];apply hK;clear hK K))
  refine z13 (fun (i:Nat)=>[(3,.d (.i i))]) (fun _=>[]) (fun i=>i≤n.paths.length∧(n.paths.take i).any (fun x=>decide ((x.opens.length:Int) > 20))=false) (fun i=>n.paths.length - i) 0 ?_ ⟨Nat.zero_le _,rfl⟩ ?_
  ·simp only [go_sem]
   refine weA ?_ ?_ <;> simp
  ·intro i ⟨hi,hall⟩
   simp only [go_sem]
   repeat (first|refine nx ?_|(refine z3 fun K hK=>?_;simp only [go_sem];apply hK;clear hK K))
   refine z5 rfl (fun hb=>?_) (fun hb=>?_)
   ·have hlt:i<n.paths.length:=by simpa using hb
    have hw:IntKind.i64.wrap ((i:Int) + 1)=((i + 1:Nat):Int):=by rw [z9 (by omega)];simp
    obtain⟨x,hx⟩:∃ x,n.paths[i]?=some x:=⟨_,List.getElem?_eq_getElem hlt⟩
    repeat (first|refine nx ?_|(refine z3 fun K hK=>?_;simp only [go_sem,hx,List.getElem?_map,Path.row];apply hK;clear hK K))
    refine z5 rfl (fun hd=>?_) (fun hd=>?_)
    ·repeat (first|refine nx ?_|(refine z3 fun K hK=>?_;simp only [go_sem];apply hK;clear hK K))
     have ha:=z128 (q:=fun x:Path=>decide ((x.opens.length:Int) > 20)) hx hd
     simp only [go_sem,farM,hc,ha]
    ·repeat (first|refine nx ?_|(refine z3 fun K hK=>?_;simp only [go_sem,hw];apply hK;clear hK K))
     refine⟨rfl,i + 1,?_,⟨hlt,z94 hx hall hd⟩,by omega⟩
     refine weA ?_ ?_ <;> simp
   ·have he:i=n.paths.length:=by (have:¬ i<n.paths.length:=by simpa using hb);omega
    subst he
    rw [List.take_length] at hall
    have hf:farM n=(!badNet n && (decide (n.places > 5) || decide ((n.paths.length:Int) > 8))):=by unfold farM;rw [hc,hall];rfl
    rw [hf]
    by_cases hbad:badNet n=true
    ·repeat (first|refine nx ?_|(refine z3 fun K hK=>?_;simp only [go_sem,checkF,hbad];(repeat (first|(refine⟨_,.lent (hf:=h27) (hd:=rfl) (hr:=rfl),?_⟩;simp only [go_sem,checkF,hbad])|(refine⟨_,.given (hf:=h27) (hd:=rfl) (ha:=rfl),?_⟩;simp only [go_sem,checkF,hbad])));apply hK;clear hK K))
     try simp only [go_sem,hbad]
    ·by_cases hp:n.places > 5
     ·repeat (first|refine nx ?_|(refine z3 fun K hK=>?_;simp only [go_sem,checkF,hbad,hp];(repeat (first|(refine⟨_,.lent (hf:=h27) (hd:=rfl) (hr:=rfl),?_⟩;simp only [go_sem,checkF,hbad,hp])|(refine⟨_,.given (hf:=h27) (hd:=rfl) (ha:=rfl),?_⟩;simp only [go_sem,checkF,hbad,hp])));apply hK;clear hK K))
      simp only [go_sem,hbad,hp]
     ·repeat (first|refine nx ?_|(refine z3 fun K hK=>?_;simp only [go_sem,checkF,hbad,hp];(repeat (first|(refine⟨_,.lent (hf:=h27) (hd:=rfl) (hr:=rfl),?_⟩;simp only [go_sem,checkF,hbad,hp])|(refine⟨_,.given (hf:=h27) (hd:=rfl) (ha:=rfl),?_⟩;simp only [go_sem,checkF,hbad,hp])));apply hK;clear hK K))
      simp only [go_sem,hbad,hp]
end Go.Ab
namespace Go.Ab
open Go.RowKit Go.Proofs
set_option maxHeartbeats 16000000
set_option maxRecDepth 20000
attribute [local irreducible] WalkL Walk
def neverW:Int:=1073741824
def zeroN:Mat:=fun a b=>if a=b then 0 else neverW
def partN (m i b:Nat):List Int:=(List.range m).map fun j=>if j<b then zeroN i j else 0
def zeroTN (m k:Nat):List (List Int):=(List.range k).map (rowM m zeroN)
def relaxN (p:Party) (F:Mat) (y:Path):Mat:=if y.grade≤p.grade then updM F y.frm.toNat y.to.toNat (min (F y.frm.toNat y.to.toNat) (spanW y p).hi) else F
def allR (n:Net) (p:Party):Mat:=(List.range n.places.toNat).foldl (stepV n.places.toNat) (n.paths.foldl (relaxN p) zeroN)
def nmx (L i m:Nat):List (List AV):=nm L i++List.replicate (m - i) [.d (.sl [])]
theorem z1285 (L m:Nat):nmx L m m=nm L m:=by simp [nmx]
theorem z1229 (L m:Nat):nmx L 0 m=List.replicate m [.d (.sl [])]:=by simp [nmx,nm]
theorem z1139 {L i m:Nat} (h:i≤m):(nmx L i m).length=m:=by simp [nmx,z77];omega
theorem z1284 {L i m a:Nat} (h:a<i):(nmx L i m)[a]?=some [.own (a + L)]:=by
 rw [nmx,List.getElem?_append_left (by rw [z77];exact h),z238 h]
theorem z1230 {L i m:Nat} (h:i<m):(nmx L i m)[i]?=some [.d (.sl [])]:=by
 rw [nmx,List.getElem?_append_right (by rw [z77];omega),z77,Nat.sub_self,List.getElem?_replicate,if_pos (by omega)]
theorem z1283 {L i m:Nat} (h:i<m) (x:AV):(nmx L i m).set i [x]=nm L i++([x]::List.replicate (m - (i + 1)) [.d (.sl [])]):=by
 rw [nmx,List.set_append_right _ _ (by rw [z77];omega),z77,Nat.sub_self,show m - i=(m - (i + 1)) + 1 by omega,List.replicate_succ,List.set_cons_zero]
theorem z1332 {a L i m:Nat} (h:a<L) (hi:i<m):((nm L i++([AV.own a]::List.replicate (m - (i + 1)) [AV.d (.sl [])])).map fun r=>r.map (AV.mapN (mv a (i + L))))=nmx L (i + 1) m:=by
 rw [List.map_append,z1333 h,List.map_cons,List.map_replicate,nmx,← z1140,List.append_assoc]
 have e:mv a (i + L) a=some (i + L):=by simp [mv]
 simp [AV.mapN,e]
theorem z242 {m:List (Option Blk)} {L k j:Nat} (h1:k≤(m.drop L).length) (h2:(m.drop L).all Option.isSome=true):((nmx L k j).all fun r=>r.all (liveB m))=true:=by
 rw [nmx,List.all_append,z57 h1 h2,Bool.true_and,List.all_eq_true]
 intro r hr
 rw [List.mem_replicate] at hr
 rw [hr.2]
 rfl
theorem z236 (m i b:Nat):(partN m i b).length=m:=by simp [partN]
theorem z1046 (m i:Nat):partN m i 0=List.replicate m 0:=by
 rw [partN]
 apply List.ext_getElem?
 intro j
 by_cases hj:j<m <;> simp [hj]
theorem z1132 (m i:Nat):partN m i m=rowM m zeroN i:=by
 rw [partN,rowM]
 apply List.map_congr_left
 intro j hj
 rw [if_pos (List.mem_range.1 hj)]
theorem z352 {m i b j:Nat} (h:j<m):(partN m i b)[j]?=some (if j<b then zeroN i j else 0):=by simp [partN,h]
theorem z1131 {m i b:Nat} (h:b<m):(partN m i b).set b (zeroN i b)=partN m i (b + 1):=by
 apply List.ext_getElem?
 intro j
 rw [List.getElem?_set]
 by_cases hj:j<m
 ·rw [z352 hj,z352 hj,z236]
  by_cases hb:b=j
  ·subst hb;simp [hj]
  ·rw [if_neg hb]
   by_cases h2:j<b
   ·rw [if_pos h2,if_pos (by omega)]
   ·rw [if_neg h2,if_neg (by omega)]
 ·rw [List.getElem?_eq_none (l:=partN m i b) (by rw [z236];omega),List.getElem?_eq_none (l:=partN m i (b + 1)) (by rw [z236];omega),if_neg (by omega)]
theorem z1047 (m i:Nat):partN m i (i + 1)=partN m i i:=by
 rw [partN,partN]
 apply List.map_congr_left
 intro j _
 by_cases h1:j<i
 ·rw [if_pos h1,if_pos (by omega)]
 ·by_cases h2:j=i
  ·subst h2;simp [zeroN]
  ·rw [if_neg h1,if_neg (by omega)]
theorem z31 (m k:Nat):(zeroTN m k).length=k:=by simp [zeroTN]
theorem z788 (m k:Nat):zeroTN m (k + 1)=zeroTN m k++[rowM m zeroN k]:=by simp [zeroTN,List.range_succ]
theorem z979 (m:Nat):zeroTN m m=matM m zeroN:=rfl
theorem z1311 (n:Net) (p:Party) {m:Nat} (h:n.places.toNat=m):allR n p=(List.range m).foldl (stepV m) (n.paths.foldl (relaxN p) zeroN):=by subst h;rfl
theorem z1413 (n:Net) (p:Party) (hg:n.Good):FnS Tryd.prog 34 [.agg n.cells,.agg p.cells] 36 1 (slRows (matM n.places.toNat (allR n p))):=by
 obtain⟨m,hm⟩:∃ m:Nat,n.places=m:=⟨n.places.toNat,by have:=hg.places;omega⟩
 have hpl:=hg.places
 have hpt:=hg.paths
 have htn:n.places.toNat=m:=by omega
 have h44:=fun i x hx=>z1434 n p i x hx
 have h45:=fun i x hx=>z1433 n p i x hx
 have hm1:(m:Int)≤1099511627776:=by omega
 have hm2:¬ ((m:Int)<0):=by omega
 have hm0:0≤(m:Int):=by omega
 rw [Net.cells,Party.cells,hm] at h44 h45
 rw [htn,Net.cells,Party.cells,hm]
 refine z251 134 Tryd.call34 Tryd.func34 rfl (by decide) fun J=>?_
 simp only [go_sem,St.start,Tryd.ntmps34,Tryd.results34,]
 repeat (first|refine nx ?_|(refine z3 fun K hK=>?_;simp only [go_sem,hm1,hm2,hm0,true_and,Int.toNat_natCast];apply hK;clear hK K))
 refine z603 16 ?_
 simp only [go_sem,lift,List.map_replicate,List.map_cons,List.map_nil]
 rw [← z1229 134 m]
 refine z50 134 (fun (i:Nat)=>[(6,.d (.i (i:Int))),(5,.own 16)]) (fun i=>[(16,some (.arrA 36 1 (nmx 134 i m)))]) (fun i=>arrs 3 1 ((zeroTN m i).map intRows)) (fun i=>i≤m) (fun i=>m - i) 0 ?_ (Nat.zero_le _) ?_
 ·simp only [go_sem,zeroTN,List.range_zero,List.map_nil,z972]
  refine z26 [] ?_ ?_ rfl ?_
  ·simp [lessT,AV.less]
  ·simp [lessT,lessM,lessB,AV.less,z18]
  ·simp only [liveM,z15,Bool.and_true]
   exact z242 (by simp) (by simp)
 ·intro i hi
  simp only [go_sem]
  repeat (first|refine nx ?_|(refine z3 fun K hK=>?_;simp only [go_sem];apply hK;clear hK K))
  refine z5 rfl (fun hb=>?_) (fun hb=>?_)
  ·have hlt:i<m:=by simpa using hb
   have hw:IntKind.i64.wrap ((i:Int) + 1)=((i + 1:Nat):Int):=by rw [z9 (by omega)];simp
   have hni:¬ ((i:Int)<0):=by omega
   have gh:=z1230 (L:=134) hlt
   have gl:=z1139 (L:=134) hi
   have gs:=z1283 (L:=134) hlt (.own 27)
   have hmv:=z1332 (a:=27) (L:=134) (by decide) hlt
   have hz:List.replicate m [DV.int .i64 0]=intRows (partN m i 0):=by rw [z1046];simp [intRows]
   repeat (first|refine nx ?_|(refine z3 fun K hK=>?_;simp only [go_sem,hm1,hm2,hm0,true_and,Int.toNat_natCast,gh,gl,gs,hni,hlt];apply hK;clear hK K))
   refine z327 27 (i + 134) ?_ _ rfl ?_
   ·simp only [go_sem,z20,List.length_map,z31]
   simp only [go_sem,hmv,z785,hz]
   refine z50 134 (fun (j:Nat)=>[(7,.d (.i (j:Int))),(27,.undef)]) (fun _=>[]) (fun j=>arrs 3 1 ((zeroTN m i++[partN m i j]).map intRows)) (fun j=>j≤m) (fun j=>m - j) 0 ?_ (Nat.zero_le _) ?_
   ·have hap:arrs 3 1 ((zeroTN m i).map intRows)++[some (Blk.arr 3 1 (intRows (partN m i 0)))]=arrs 3 1 ((zeroTN m i++[partN m i 0]).map intRows):=by rw [z783];simp
    simp only [go_sem,hap]
    refine z26 [] ?_ ?_ rfl ?_
    ·simp [lessT,AV.less]
    ·simp [lessT,lessM,lessB,AV.less,z18]
    ·simp only [liveM,z15,Bool.and_true]
     exact z242 (by simp [z20,z31]) (z33 3 1 _)
   ·intro j hj
    simp only [go_sem]
    repeat (first|refine nx ?_|(refine z3 fun K hK=>?_;simp only [go_sem];apply hK;clear hK K))
    refine z5 rfl (fun hb2=>?_) (fun hb2=>?_)
    ·have hjl:j<m:=by simpa using hb2
     have hwj:IntKind.i64.wrap ((j:Int) + 1)=((j + 1:Nat):Int):=by rw [z9 (by omega)];simp
     have hnj:¬ ((j:Int)<0):=by omega
     have hps:=z1131 (i:=i) hjl
     by_cases hij:i=j
     ·have hd:((i:Int) != (j:Int))=false:=by simp [hij]
      have e:partN m i (j + 1)=partN m i j:=by rw [← hij];exact z1047 m i
      repeat (first|refine nx ?_|(refine z3 fun K hK=>?_;simp only [go_sem,hd];apply hK;clear hK K))
      refine z4 rfl ?_
      repeat (first|refine nx ?_|(refine z3 fun K hK=>?_;simp only [go_sem,hwj];apply hK;clear hK K))
      refine⟨rfl,j + 1,?_,hjl,by omega⟩
      rw [e]
      refine z26 [] ?_ ?_ rfl ?_
      ·simp [lessT,AV.less]
      ·simp [lessT,lessM,lessB,AV.less,z18]
      ·simp only [liveM,z15,Bool.and_true]
       exact z242 (by simp [z20,z31]) (z33 3 1 _)
     ·have hd:((i:Int) != (j:Int))=true:=by simp;omega
      rw [zeroN,if_neg hij,neverW] at hps
      have gm:=z1284 (L:=134) (m:=m) (show i<i + 1 by omega)
      have gl1:=z1139 (L:=134) (show i + 1≤m by omega)
      have ga:(arrs 3 1 ((zeroTN m i++[partN m i j]).map intRows))[i]?=some (some (Blk.arr 3 1 (intRows (partN m i j)))):=z118 (by simp [z31])
      have gj:=z40 (z352 (i:=i) (b:=j) hjl)
      have gln:(intRows (partN m i j)).length=m:=by rw [z12,z236]
      have hset:(arrs 3 1 ((zeroTN m i++[partN m i j]).map intRows)).set i (some (Blk.arr 3 1 (intRows (partN m i (j + 1)))))=arrs 3 1 ((zeroTN m i++[partN m i (j + 1)]).map intRows):=by
       rw [z256]
       simp [z31]
      repeat (first|refine nx ?_|(refine z3 fun K hK=>?_;simp only [go_sem,hd];apply hK;clear hK K))
      refine z7 rfl ?_
      repeat (first|refine nx ?_|(refine z3 fun K hK=>?_;simp only [go_sem,gm,gl1,ga,gj,gln,z39,hps,hset,hni,hnj,hlt,hjl,hwj];apply hK;clear hK K))
      refine⟨rfl,j + 1,?_,hjl,by omega⟩
      refine z26 [] ?_ ?_ rfl ?_
      ·simp [lessT,AV.less]
      ·simp [lessT,lessM,lessB,AV.less,z18]
      ·simp only [liveM,z15,Bool.and_true]
       exact z242 (by simp [z20,z31]) (z33 3 1 _)
    ·have he:j=m:=by (have:¬ j<m:=by simpa using hb2);omega
     subst he
     rw [z1132,← z788]
     repeat (first|refine nx ?_|(refine z3 fun K hK=>?_;simp only [go_sem,hw];apply hK;clear hK K))
     refine⟨rfl,i + 1,?_,hlt,by omega⟩
     refine z26 [] ?_ ?_ rfl ?_
     ·simp [lessT,AV.less]
     ·simp [lessT,lessM,lessB,AV.less,z18]
     ·simp only [liveM,z15,Bool.and_true]
      exact z242 (by simp [z20,z31]) (z33 3 1 _)
  ·have he:i=m:=by (have:¬ i<m:=by simpa using hb);omega
   subst he
   rw [z1285,z979]
   repeat (first|refine nx ?_|(refine z3 fun K hK=>?_;simp only [go_sem];apply hK;clear hK K))
   refine z50 134 (fun (k:Nat)=>[(8,.d (.i (k:Int))),(9,.undef),(10,.undef)]) (fun _=>[]) (fun k=>arrs 3 1 ((matM i ((n.paths.take k).foldl (relaxN p) zeroN)).map intRows)) (fun k=>k≤n.paths.length) (fun k=>n.paths.length - k) 0 ?_ (Nat.zero_le _) ?_
   ·simp only [go_sem,List.take_zero,List.foldl_nil]
    refine z26 [] ?_ ?_ rfl ?_
    ·simp [lessT,AV.less]
    ·simp [lessT,lessM,lessB,AV.less,z18]
    ·simp only [liveM,z15,Bool.and_true]
     exact z57 (by simp [z20,z28,z31]) (z33 3 1 _)
   ·intro k hk
    obtain⟨F,hF⟩:∃ F,F=(n.paths.take k).foldl (relaxN p) zeroN:=⟨_,rfl⟩
    rw [← hF]
    simp only [go_sem]
    repeat (first|refine nx ?_|(refine z3 fun K hK=>?_;simp only [go_sem,List.length_map];apply hK;clear hK K))
    refine z5 rfl (fun hb=>?_) (fun hb=>?_)
    ·have hkl:k<n.paths.length:=by simpa using hb
     have hwk:IntKind.i64.wrap ((k:Int) + 1)=((k + 1:Nat):Int):=by rw [z9 (by omega)];simp
     obtain⟨y,hy⟩:∃ y,n.paths[k]?=some y:=⟨_,List.getElem?_eq_getElem hkl⟩
     have hnx:(n.paths.take (k + 1)).foldl (relaxN p) zeroN=relaxN p F y:=by rw [z24 _ _ _ _ _ hy,hF]
     rw [relaxN] at hnx
     have h44k:=h44 k y hy
     have h45k:=h45 k y hy
     by_cases hgr:y.grade≤p.grade
     ·rw [if_pos hgr] at hnx
      rw [decide_eq_true hgr] at h44k
      have hpg:=hg.path y (List.mem_of_getElem? hy)
      obtain⟨a,ha⟩:∃ a:Nat,y.frm=a:=⟨y.frm.toNat,by have:=hpg.frm;omega⟩
      obtain⟨b,hb⟩:∃ b:Nat,y.to=b:=⟨y.to.toNat,by have:=hpg.to;omega⟩
      have hal:a<i:=by have:=hpg.frm;omega
      have hbl:b<i:=by have:=hpg.to;omega
      have na:¬ ((a:Int)<0):=by omega
      have nb:¬ ((b:Int)<0):=by omega
      have nk:¬ ((k:Int)<0):=by omega
      have gm:=z238 (L:=134) hal
      have ga:(arrs 3 1 ((matM i F).map intRows))[a]?=some (some (.arr 3 1 (intRows (rowM i F a)))):=z118 (by simp [z73 hal])
      have gc:=z40 (z55 (F:=F) (a:=a) hbl)
      have hln:(intRows (rowM i F a)).length=i:=by rw [z12,z105]
      have hset:∀ v,(arrs 3 1 ((matM i F).map intRows)).set a (some (.arr 3 1 (intRows ((rowM i F a).set b v))))=arrs 3 1 ((matM i (updM F a b v)).map intRows):=fun v=>by rw [z256,← List.map_set,z239]
      have hgp:(n.paths.map Path.row)[k]?=some y.row:=by rw [List.getElem?_map,hy];rfl
      rw [Path.row,ha,hb] at hgp
      rw [Span.row] at h45k
      rw [ha,hb,Int.toNat_natCast,Int.toNat_natCast] at hnx
      repeat (first|refine nx ?_|(refine z3 fun K hK=>?_;simp only [go_sem];(repeat (first|(refine⟨_,.lent (hf:=h44k) (hd:=rfl) (hr:=rfl),?_⟩;simp only [go_sem])|(refine⟨_,.given (hf:=h44k) (hd:=rfl) (ha:=rfl),?_⟩;simp only [go_sem])));apply hK;clear hK K))
      refine z7 rfl ?_
      repeat (first|refine z34 ?_)
      refine z8 (by kernel_rfl) (by kernel_rfl) fun K hK=>?_
      simp only [go_sem,hgp,hkl,nk,List.length_map]
      refine⟨by kernel_rfl,hK _ ?_⟩
      clear hK K
      refine z8 (by kernel_rfl) (by kernel_rfl) fun K hK=>?_
      simp only [go_sem,z77,hal,hbl,na,nb,gm,ga,gc,hln,z39]
      refine⟨_,.fn (hf:=h45k) (hd:=rfl) (hr:=.inl rfl),?_⟩
      simp only [go_sem,z77,hal,hbl,na,nb,gm,ga,gc,hln,z39,hset]
      refine⟨by kernel_rfl,hK _ ?_⟩
      clear hK K
      repeat (first|refine nx ?_|(refine z3 fun K hK=>?_;simp only [go_sem,hwk];apply hK;clear hK K))
      refine⟨rfl,k + 1,?_,hkl,by omega⟩
      rw [hnx]
      refine z26 [] ?_ ?_ rfl ?_
      ·simp [lessT,AV.less]
      ·simp [lessT,lessM,lessB,AV.less,z18]
      ·simp only [liveM,z15,Bool.and_true]
       exact z57 (by simp [z20,z28,z31]) (z33 3 1 _)
     ·rw [if_neg hgr] at hnx
      rw [decide_eq_false hgr] at h44k
      repeat (first|refine nx ?_|(refine z3 fun K hK=>?_;simp only [go_sem];(repeat (first|(refine⟨_,.lent (hf:=h44k) (hd:=rfl) (hr:=rfl),?_⟩;simp only [go_sem])|(refine⟨_,.given (hf:=h44k) (hd:=rfl) (ha:=rfl),?_⟩;simp only [go_sem])));apply hK;clear hK K))
      refine z4 rfl ?_
      repeat (first|refine nx ?_|(refine z3 fun K hK=>?_;simp only [go_sem,hwk];apply hK;clear hK K))
      refine⟨rfl,k + 1,?_,hkl,by omega⟩
      rw [hnx]
      refine z26 [] ?_ ?_ rfl ?_
      ·simp [lessT,AV.less]
      ·simp [lessT,lessM,lessB,AV.less,z18]
      ·simp only [liveM,z15,Bool.and_true]
       exact z57 (by simp [z20,z28,z31]) (z33 3 1 _)
    ·have hke:k=n.paths.length:=by (have:¬ k<n.paths.length:=by simpa using hb);omega
     rw [hke,List.take_length] at hF
     repeat (first|refine nx ?_|(refine z3 fun K hK=>?_;simp only [go_sem];apply hK;clear hK K))
     refine z50 134 (fun (a:Nat × Mat)=>[(11,.d (.i (a.1:Nat))),(12,.undef),(13,.undef)]) (fun _=>[]) (fun a=>arrs 3 1 ((matM i a.2).map intRows)) (fun a=>a.1≤i∧a.2=(List.range a.1).foldl (stepV i) F) (fun a=>i - a.1) (0,F) ?_ ⟨Nat.zero_le _,rfl⟩ ?_
     ·simp only [go_sem]
      refine z26 [] ?_ ?_ rfl ?_
      ·simp [lessT,AV.less]
      ·simp [lessT,lessM,lessB,AV.less,z18]
      ·simp only [liveM,z15,Bool.and_true]
       exact z57 (by simp [z20,z28,z31]) (z33 3 1 _)
     ·rintro⟨v,G⟩ ⟨hvi,hG⟩
      dsimp only at hvi hG
      simp only [go_sem]
      repeat (first|refine nx ?_|(refine z3 fun K hK=>?_;simp only [go_sem];apply hK;clear hK K))
      refine z5 rfl (fun hb=>?_) (fun hb=>?_)
      ·have hvl:v<i:=by simpa using hb
       have hwv:IntKind.i64.wrap ((v:Int) + 1)=((v + 1:Nat):Int):=by rw [z9 (by omega)];simp
       repeat (first|refine nx ?_|(refine z3 fun K hK=>?_;simp only [go_sem,z77];apply hK;clear hK K))
       refine z50 134 (fun (a:Nat × Mat)=>[(12,.d (.i (a.1:Nat))),(13,.undef)]) (fun _=>[]) (fun a=>arrs 3 1 ((matM i a.2).map intRows)) (fun a=>a.1≤i∧a.2=(List.range a.1).foldl (stepA i v) G) (fun a=>i - a.1) (0,G) ?_ ⟨Nat.zero_le _,rfl⟩ ?_
       ·simp only [go_sem]
        refine z26 [] ?_ ?_ rfl ?_
        ·simp [lessT,AV.less]
        ·simp [lessT,lessM,lessB,AV.less,z18]
        ·simp only [liveM,z15,Bool.and_true]
         exact z57 (by simp [z20,z28,z31]) (z33 3 1 _)
       ·rintro⟨a,H⟩ ⟨hai,hH⟩
        dsimp only at hai hH
        simp only [go_sem]
        repeat (first|refine nx ?_|(refine z3 fun K hK=>?_;simp only [go_sem];apply hK;clear hK K))
        refine z5 rfl (fun hb=>?_) (fun hb=>?_)
        ·have hal:a<i:=by simpa using hb
         have hwa:IntKind.i64.wrap ((a:Int) + 1)=((a + 1:Nat):Int):=by rw [z9 (by omega)];simp
         repeat (first|refine nx ?_|(refine z3 fun K hK=>?_;simp only [go_sem,z77];apply hK;clear hK K))
         refine z50 134 (fun (b:Nat × Mat)=>[(13,.d (.i (b.1:Nat)))]) (fun _=>[]) (fun b=>arrs 3 1 ((matM i b.2).map intRows)) (fun b=>b.1≤i∧b.2=(List.range b.1).foldl (fun F b=>viaM v F a b) H) (fun b=>i - b.1) (0,H) ?_ ⟨Nat.zero_le _,rfl⟩ ?_
         ·simp only [go_sem]
          refine z26 [] ?_ ?_ rfl ?_
          ·simp [lessT,AV.less]
          ·simp [lessT,lessM,lessB,AV.less,z18]
          ·simp only [liveM,z15,Bool.and_true]
           exact z57 (by simp [z20,z28,z31]) (z33 3 1 _)
         ·rintro⟨b,M⟩ ⟨hbi,hM⟩
          dsimp only at hbi hM
          simp only [go_sem]
          repeat (first|refine nx ?_|(refine z3 fun K hK=>?_;simp only [go_sem];apply hK;clear hK K))
          refine z5 rfl (fun hb=>?_) (fun hb=>?_)
          ·have hbl:b<i:=by simpa using hb
           have hwb:IntKind.i64.wrap ((b:Int) + 1)=((b + 1:Nat):Int):=by rw [z9 (by omega)];simp
           have na:¬ ((a:Int)<0):=by omega
           have nb:¬ ((b:Int)<0):=by omega
           have nv:¬ ((v:Int)<0):=by omega
           have gma:=z238 (L:=134) hal
           have gmv:=z238 (L:=134) hvl
           have ga:(arrs 3 1 ((matM i M).map intRows))[a]?=some (some (.arr 3 1 (intRows (rowM i M a)))):=z118 (by simp [z73 hal])
           have gv:(arrs 3 1 ((matM i M).map intRows))[v]?=some (some (.arr 3 1 (intRows (rowM i M v)))):=z118 (by simp [z73 hvl])
           have gab:=z40 (z55 (F:=M) (a:=a) hbl)
           have gav:=z40 (z55 (F:=M) (a:=a) hvl)
           have gvb:=z40 (z55 (F:=M) (a:=v) hbl)
           have hln:∀ q,(intRows (rowM i M q)).length=i:=fun q=>by rw [z12,z105]
           have hset:∀ u,(arrs 3 1 ((matM i M).map intRows)).set a (some (.arr 3 1 (intRows ((rowM i M a).set b u))))=arrs 3 1 ((matM i (updM M a b u)).map intRows):=fun u=>by rw [z256,← List.map_set,z239]
           repeat (first|refine nx ?_|(refine z3 fun K hK=>?_;simp only [go_sem];apply hK;clear hK K))
           refine z8 (by kernel_rfl) (by kernel_rfl) fun K hK=>?_
           simp only [go_sem,z77,hal,hbl,hvl,na,nb,nv,gma,gmv,ga,gv,gab,gav,gvb,hln,z39]
           refine⟨by kernel_rfl,hK _ ?_⟩
           clear hK K
           simp only [go_sem,hset]
           repeat (first|refine nx ?_|(refine z3 fun K hK=>?_;simp only [go_sem,hwb];apply hK;clear hK K))
           refine⟨rfl,(b + 1,viaM v M a b),?_,⟨hbl,by rw [z60,← hM]⟩,by dsimp only;omega⟩
           rw [viaM]
           refine z26 [] ?_ ?_ rfl ?_
           ·simp [lessT,AV.less]
           ·simp [lessT,lessM,lessB,AV.less,z18]
           ·simp only [liveM,z15,Bool.and_true]
            exact z57 (by simp [z20,z28,z31]) (z33 3 1 _)
          ·have he:b=i:=by (have:¬ b<i:=by simpa using hb);omega
           subst he
           repeat (first|refine nx ?_|(refine z3 fun K hK=>?_;simp only [go_sem,hwa];apply hK;clear hK K))
           refine⟨rfl,(a + 1,M),?_,⟨hal,by rw [z60,← hH,hM];rfl⟩,by dsimp only;omega⟩
           refine z26 [] ?_ ?_ rfl ?_
           ·simp [lessT,AV.less]
           ·simp [lessT,lessM,lessB,AV.less,z18]
           ·simp only [liveM,z15,Bool.and_true]
            exact z57 (by simp [z20,z28,z31]) (z33 3 1 _)
        ·have he:a=i:=by (have:¬ a<i:=by simpa using hb);omega
         subst he
         repeat (first|refine nx ?_|(refine z3 fun K hK=>?_;simp only [go_sem,hwv];apply hK;clear hK K))
         refine⟨rfl,(v + 1,H),?_,⟨hvl,by rw [z60,← hG,hH];rfl⟩,by dsimp only;omega⟩
         refine z26 [] ?_ ?_ rfl ?_
         ·simp [lessT,AV.less]
         ·simp [lessT,lessM,lessB,AV.less,z18]
         ·simp only [liveM,z15,Bool.and_true]
          exact z57 (by simp [z20,z28,z31]) (z33 3 1 _)
      ·have he:v=i:=by (have:¬ v<i:=by simpa using hb);omega
       subst he
       have hGe:allR n p=G:=by rw [z1311 n p htn,← hF,hG]
       rw [hGe]
       repeat (first|refine z95 ?_|refine z70 ?_|refine z97 ?_|refine z6 ?_)
       refine z460 (L:=134) (d:=16) (e:=36) (e1:=3) (z1:=1) ((matM v G).map intRows) (by decide) (by simp) (by rw [List.length_map,z28];rfl) (fun j r hj=>by
        simp only [List.getElem?_cons_succ]
        exact z118 hj) ?_
       have hfr:flatRows ((matM v G).map intRows)=slRows (matM v G):=by simp [flatRows,slRows]
       simp only [go_sem,hfr,List.take_succ_cons,List.take_zero,List.map_cons,List.map_nil]
       repeat (first|refine nx ?_|(refine z3 fun K hK=>?_;simp only [go_sem];apply hK;clear hK K))
       simp only [go_sem]
end Go.Ab
namespace Go.Ab
open Go.RowKit Go.Proofs
set_option maxHeartbeats 2000000
def pureB (F:Mat) (S:List SpotT) (rec:Nat→Nat→Int × Int) (p s:Nat) (a:Int × Int) (i:Nat):Int × Int :=
 if minW F S p i ≥ farW then a else pickB (wr (wr (minW F S p i * weightW S s) + (rec (nextP S i) (s - 2 ^ i)).1)) i a
def bestV (F:Mat) (S:List SpotT):Nat→Nat→Nat→Int × Int
 | 0,_,_=>(0,-1)
 | f + 1,p,s=>if s=0 then (0,-1) else (elems s).foldl (pureB F S (bestV F S f) p s) (farW,-1)
theorem z307 {α β:Type} {f g:β→α→β}:∀ (l:List α) (b:β),(∀ b,∀ a ∈ l,f b a=g b a)→l.foldl f b=l.foldl g b
 | [],_,_=>rfl
 | x::l,b,h=>by
  rw [List.foldl_cons,List.foldl_cons,h b x (by simp)]
  exact z307 l _ fun b a ha=>h b a (by simp [ha])
theorem z161 {F:Mat} {S:List SpotT}:∀ (f g p s:Nat),s<32→(elems s).length≤f→(elems s).length≤g→bestV F S f p s=bestV F S g p s
 | 0,g,p,s,hs,hf,_=>by
  have h0:s=0:=z68 s hs (by omega)
  subst h0
  cases g
  ·rfl
  ·rw [bestV,bestV,if_pos rfl]
 | f + 1,0,p,s,hs,_,hg=>by
  have h0:s=0:=z68 s hs (by omega)
  subst h0
  rw [bestV,bestV,if_pos rfl]
 | f + 1,g + 1,p,s,hs,hf,hg=>by
  rw [bestV,bestV]
  by_cases h0:s=0
  ·rw [if_pos h0,if_pos h0]
  ·rw [if_neg h0,if_neg h0]
   refine z307 _ _ fun b i hi=>?_
   obtain⟨u1,u2,_⟩:=z45 hs hi
   rw [pureB,pureB,z161 f g (nextP S i) (s - 2 ^ i) u1 (by omega) (by omega)]
def SoundB (F:Mat) (S:List SpotT) (m:MemB):Prop:=∀ e ∈ m.1,e.1.2<32∧e.2.1=bestV F S 5 e.1.1 e.1.2
theorem z733 {k:Nat × Nat}:∀ {es:List EntB} {i j b:Nat} {v:Int × Int},lookB es k i=some (j,v,b)→∃ b',(k,v,b') ∈ es
 | [],_,_,_,_,h=>by simp [lookB] at h
 | e::es,i,j,b,v,h=>by
  rw [lookB] at h
  split at h
  ·rename_i hk
   cases h
   exact⟨e.2.2,by rw [hk];simp⟩
  ·obtain⟨b',hb⟩:=z733 h
   exact⟨b',by simp [hb]⟩
theorem z953 {k:Nat × Nat} {w:Int × Int} {c:Nat}:∀ {es:List EntB} {e:EntB},e ∈ (putB es k w c).1→e ∈ es∨(e.1=k∧e.2.1=w)
 | [],e,h=>by
  simp [putB] at h
  subst h
  exact .inr ⟨rfl,rfl⟩
 | x::es,e,h=>by
  rw [putB] at h
  split at h
  ·rcases List.mem_cons.1 h with rfl | h
   ·exact .inr ⟨rfl,rfl⟩
   ·exact .inl (by simp [h])
  ·rcases List.mem_cons.1 h with rfl | h
   ·exact .inl (by simp)
   ·rcases z953 h with h | h
    ·exact .inl (by simp [h])
    ·exact .inr h
theorem z349 {F:Mat} {S:List SpotT} {rec:Nat→Nat→MemB→(Int × Int) × MemB} {recV:Nat→Nat→Int × Int} {p s:Nat} (hr:∀ i ∈ elems s,∀ m,SoundB F S m→(rec (nextP S i) (s - 2 ^ i) m).1=recV (nextP S i) (s - 2 ^ i)∧SoundB F S (rec (nextP S i) (s - 2 ^ i) m).2) :
  ∀ (l:List Nat) (a:(Int × Int) × MemB),(∀ i ∈ l,i ∈ elems s)→SoundB F S a.2→(l.foldl (stepB F S rec p s) a).1=l.foldl (pureB F S recV p s) a.1∧SoundB F S (l.foldl (stepB F S rec p s) a).2
 | [],a,_,h=>⟨rfl,h⟩
 | i::l,a,hl,h=>by
  obtain⟨r1,r2⟩:=hr i (hl i (by simp)) a.2 h
  rw [List.foldl_cons,List.foldl_cons]
  have hst:(stepB F S rec p s a i).1=pureB F S recV p s a.1 i∧SoundB F S (stepB F S rec p s a i).2:=by
   rw [stepB,pureB]
   split
   ·exact⟨rfl,h⟩
   ·exact⟨by rw [r1],r2⟩
  obtain⟨q1,q2⟩:=z349 hr l (stepB F S rec p s a i) (fun j hj=>hl j (by simp [hj])) hst.2
  exact⟨by rw [q1,hst.1],q2⟩
theorem z127 {F:Mat} {S:List SpotT}:∀ (f p s:Nat) (m:MemB),s<32→(elems s).length≤f→f≤5→SoundB F S m→(bestM F S f p s m).1=bestV F S f p s∧SoundB F S (bestM F S f p s m).2
 | 0,p,s,m,_,_,_,h=>⟨rfl,h⟩
 | f + 1,p,s,m,hs,hf,h5,h=>by
  rw [bestM,bestV]
  by_cases h0:s=0
  ·rw [if_pos h0,if_pos h0];exact⟨rfl,h⟩
  ·rw [if_neg h0,if_neg h0]
   have hfu:bestV F S (f + 1) p s=(elems s).foldl (pureB F S (bestV F S f) p s) (farW,-1):=by rw [bestV,if_neg h0]
   cases hlk:lookB m.1 (p,s) 0 with
   | some w =>
    obtain⟨j,v,b⟩:=w
    dsimp only
    obtain⟨b',hb⟩:=z733 hlk
    have:=(h _ hb).2
    dsimp only at this
    rw [← hfu,this]
    exact⟨z161 _ _ _ _ hs (by have:=z19 s hs;omega) hf,h⟩
   | none =>
    dsimp only
    have hr:=z349 (F:=F) (S:=S) (rec:=bestM F S f) (recV:=bestV F S f) (p:=p) (s:=s) (fun i hi m hm=>by
     obtain⟨u1,u2,_⟩:=z45 hs hi
     exact z127 f (nextP S i) (s - 2 ^ i) m u1 (by omega) (by omega) hm) (elems s) ((farW,-1),m) (fun i hi=>hi) h
    rw [← roundB] at hr
    refine⟨hr.1,fun e he=>?_⟩
    rcases z953 he with he | ⟨e1,e2⟩
    ·exact hr.2 e he
    ·rw [e1,e2]
     refine⟨hs,?_⟩
     rw [hr.1,← hfu]
     exact z161 _ _ _ _ hs hf (by have:=z19 s hs;omega)
end Go.Ab
namespace Go.Ab
open Go.RowKit Go.Proofs
set_option maxHeartbeats 2000000
inductive ChainW (n:Net) (p:Party):List Nat→Nat→Nat→Int→Prop
 | nil (a:Nat):ChainW n p [] a a 0
 | one {w:Nat × Path} (hw:w ∈ canL n p):ChainW n p [] w.2.frm.toNat w.2.to.toNat (spanW w.2 p).hi
 | app {l1 l2:List Nat} {a v b:Nat} {c d:Int} (h1:ChainW n p l1 a v c) (h2:ChainW n p l2 v b d):ChainW n p (l1++v::l2) a b (c + d)
def SoundM (n:Net) (p:Party) (F:Mat):Prop:=∀ a b,0≤F a b∧F a b≤farW∧(F a b<farW→∃ l,ChainW n p l a b (F a b))
theorem z201 (n:Net) (p:Party):SoundM n p zeroM:=fun a b=>by
 rw [zeroM]
 by_cases h:a=b
 ·subst h;rw [if_pos rfl];exact⟨Int.le_refl _,by decide,fun _=>⟨_,.nil a⟩⟩
 ·rw [if_neg h];exact⟨by decide,Int.le_refl _,fun hc=>absurd hc (Int.lt_irrefl _)⟩
theorem z904 {n:Net} {p:Party} {F:Mat} {w:Nat × Path} (hw:w ∈ canL n p) (h0:0≤(spanW w.2 p).hi) (h:SoundM n p F):SoundM n p (relaxM p F w):=fun a b=>by
 rw [relaxM,updM]
 split
 ·rename_i hc
  obtain⟨h1,h2,h3⟩:=h w.2.frm.toNat w.2.to.toNat
  rw [hc.1,hc.2]
  by_cases hm:F w.2.frm.toNat w.2.to.toNat≤(spanW w.2 p).hi
  ·rw [Int.min_eq_left hm];exact⟨h1,h2,h3⟩
  ·rw [Int.min_eq_right (by omega)];exact⟨h0,by omega,fun _=>⟨_,.one hw⟩⟩
 ·exact h a b
theorem z461 {n:Net} {p:Party} {F:Mat} (h:SoundM n p F) (v a b:Nat):wr (F a v + F v b)=F a v + F v b:=by
 have h1:=h a v
 have h2:=h v b
 have:farW=1099511627776:=rfl
 exact z9 (by omega)
theorem z610 {n:Net} {p:Party} {F:Mat} (h:SoundM n p F) (v x y:Nat):SoundM n p (viaM v F x y):=fun a b=>by
 rw [viaM,updM,z461 h]
 split
 ·rename_i hc
  rw [hc.1,hc.2]
  obtain⟨h1,h2,h3⟩:=h x y
  obtain⟨g1,g2,g3⟩:=h x v
  obtain⟨k1,k2,k3⟩:=h v y
  by_cases hm:F x y≤F x v + F v y
  ·rw [Int.min_eq_left hm];exact⟨h1,h2,h3⟩
  ·rw [Int.min_eq_right (by omega)]
   refine⟨by omega,by omega,fun hl=>?_⟩
   obtain⟨l1,c1⟩:=g3 (by omega)
   obtain⟨l2,c2⟩:=k3 (by omega)
   exact⟨_,.app c1 c2⟩
 ·exact h a b
theorem z1327 {n:Net} {p:Party} {F:Mat} (h:SoundM n p F) (v x y a b:Nat):viaM v F x y a b≤F a b:=by
 rw [viaM,updM,z461 h]
 split
 ·rename_i hc;rw [hc.1,hc.2];omega
 ·exact Int.le_refl _
theorem z796 {n:Net} {p:Party} {F:Mat} (h:SoundM n p F) (v x y a:Nat):viaM v F x y a v=F a v∧viaM v F x y v a=F v a:=by
 have hv:=h v v
 rw [viaM,z461 h]
 simp only [updM]
 constructor
 ·split
  ·rename_i hc;obtain⟨rfl,rfl⟩:=hc;omega
  ·rfl
 ·split
  ·rename_i hc;obtain⟨rfl,rfl⟩:=hc;omega
  ·rfl
theorem z493 {n:Net} {p:Party} (v a:Nat):∀ (l:List Nat) (F:Mat),SoundM n p F→SoundM n p (l.foldl (fun F b=>viaM v F a b) F) ∧
  (∀ x y,(l.foldl (fun F b=>viaM v F a b) F) x y≤F x y)∧(∀ x,(l.foldl (fun F b=>viaM v F a b) F) x v=F x v∧(l.foldl (fun F b=>viaM v F a b) F) v x=F v x) ∧
  ∀ b ∈ l,(l.foldl (fun F b=>viaM v F a b) F) a b≤F a v + F v b
 | [],F,h=>⟨h,fun _ _=>Int.le_refl _,fun _=>⟨rfl,rfl⟩,fun b hb=>by simp at hb⟩
 | b::l,F,h=>by
  obtain⟨s1,s2,s3,s4⟩:=z493 v a l (viaM v F a b) (z610 h v a b)
  have hr:=z796 h v a b
  refine⟨s1,fun x y=>Int.le_trans (s2 x y) (z1327 h v a b x y),fun x=>⟨(s3 x).1.trans (hr x).1,(s3 x).2.trans (hr x).2⟩,fun y hy=>?_⟩
  rcases List.mem_cons.1 hy with rfl | hy
  ·refine Int.le_trans (s2 a y) ?_
   rw [viaM,updM,if_pos ⟨rfl,rfl⟩,z461 h]
   omega
  ·have:=s4 y hy
   rw [(hr a).1,(hr y).2] at this
   exact this
theorem z267 {n:Net} {p:Party} (m v:Nat):∀ (l:List Nat) (F:Mat),SoundM n p F→SoundM n p (l.foldl (stepA m v) F) ∧
  (∀ x y,(l.foldl (stepA m v) F) x y≤F x y)∧(∀ x,(l.foldl (stepA m v) F) x v=F x v∧(l.foldl (stepA m v) F) v x=F v x) ∧
  ∀ a ∈ l,∀ b,b<m→(l.foldl (stepA m v) F) a b≤F a v + F v b
 | [],F,h=>⟨h,fun _ _=>Int.le_refl _,fun _=>⟨rfl,rfl⟩,fun b hb=>by simp at hb⟩
 | a::l,F,h=>by
  obtain⟨t1,t2,t3,t4⟩:=z493 v a (List.range m) F h
  obtain⟨s1,s2,s3,s4⟩:=z267 m v l (stepA m v F a) t1
  refine⟨s1,fun x y=>Int.le_trans (s2 x y) (t2 x y),fun x=>⟨(s3 x).1.trans (t3 x).1,(s3 x).2.trans (t3 x).2⟩,fun x hx b hb=>?_⟩
  rcases List.mem_cons.1 hx with rfl | hx
  ·exact Int.le_trans (s2 x b) (t4 b (List.mem_range.2 hb))
  ·have:=s4 x hx b hb
   have e1:(stepA m v F a) x v=F x v:=(t3 x).1
   have e2:(stepA m v F a) v b=F v b:=(t3 b).2
   rw [e1,e2] at this
   exact this
end Go.Ab
namespace Go.Ab
open Go.RowKit Go.Proofs
set_option maxHeartbeats 2000000
theorem z934 {n:Net} {p:Party} {L:List Nat} {a b:Nat} {c:Int} (h:ChainW n p L a b c) {k:Nat}:k ∈ L→∃ l1 l2 c1 c2,ChainW n p l1 a k c1∧ChainW n p l2 k b c2∧c1 + c2=c∧l1.length + l2.length<L.length∧∀ x,x ∈ l1∨x ∈ l2→x ∈ L:=by
 induction h with
 | nil a=>intro h;simp at h
 | one hw=>intro h;simp at h
 | @app l1 l2 a v b c d h1 h2 ih1 ih2 =>
  intro hk
  rcases List.mem_append.1 hk with hk | hk
  ·obtain⟨m1,m2,e1,e2,g1,g2,g3,g4,g5⟩:=ih1 hk
   refine⟨m1,m2++v::l2,e1,e2 + d,g1,.app g2 h2,by omega,by simp;omega,fun x hx=>?_⟩
   rcases hx with hx | hx
   ·exact List.mem_append.2 (.inl (g5 x (.inl hx)))
   ·rcases List.mem_append.1 hx with hx | hx
    ·exact List.mem_append.2 (.inl (g5 x (.inr hx)))
    ·exact List.mem_append.2 (.inr hx)
  ·rcases List.mem_cons.1 hk with rfl | hk
   ·exact⟨l1,l2,c,d,h1,h2,rfl,by simp,fun x hx=>by
     rcases hx with hx | hx
     ·exact List.mem_append.2 (.inl hx)
     ·exact List.mem_append.2 (.inr (List.mem_cons.2 (.inr hx)))⟩
   ·obtain⟨m1,m2,e1,e2,g1,g2,g3,g4,g5⟩:=ih2 hk
    refine⟨l1++v::m1,m2,c + e1,e2,.app h1 g1,g2,by omega,by simp;omega,fun x hx=>?_⟩
    rcases hx with hx | hx
    ·rcases List.mem_append.1 hx with hx | hx
     ·exact List.mem_append.2 (.inl hx)
     ·rcases List.mem_cons.1 hx with rfl | hx
      ·exact List.mem_append.2 (.inr (by simp))
      ·exact List.mem_append.2 (.inr (List.mem_cons.2 (.inr (g5 x (.inl hx)))))
    ·exact List.mem_append.2 (.inr (List.mem_cons.2 (.inr (g5 x (.inr hx)))))
theorem z1254 {n:Net} {p:Party} (hg:n.Good) {L:List Nat} {a b:Nat} {c:Int} (h:ChainW n p L a b c):a<n.places.toNat→b<n.places.toNat∧∀ x ∈ L,x<n.places.toNat:=by
 induction h with
 | nil a=>exact fun ha=>⟨ha,fun x hx=>by simp at hx⟩
 | @one w hw =>
  intro _
  obtain⟨_,h2,_⟩:=z107 hw
  have:=(hg.path w.2 (List.mem_of_getElem? h2)).to
  exact⟨by omega,fun x hx=>by simp at hx⟩
 | app h1 h2 ih1 ih2 =>
  intro ha
  obtain⟨g1,g2⟩:=ih1 ha
  obtain⟨k1,k2⟩:=ih2 g1
  refine⟨k1,fun x hx=>?_⟩
  rcases List.mem_append.1 hx with hx | hx
  ·exact g2 x hx
  ·rcases List.mem_cons.1 hx with rfl | hx
   ·exact g1
   ·exact k2 x hx
def Least (n:Net) (p:Party) (k:Nat) (F:Mat):Prop:=∀ (L:List Nat) (a b:Nat) (c:Int),ChainW n p L a b c→a<n.places.toNat→(∀ x ∈ L,x<k)→F a b≤c
theorem z1057 {n:Net} {p:Party} (hg:n.Good) {v:Nat} {F:Mat} (hS:SoundM n p F) (hL:Least n p v F) (hv:v<n.places.toNat):Least n p (v + 1) (stepV n.places.toNat F v):=by
 obtain⟨_,h2,h3,h4⟩:=z267 n.places.toNat v (List.range n.places.toNat) F hS
 have key:∀ (k:Nat) (L:List Nat) (a b:Nat) (c:Int),L.length≤k→ChainW n p L a b c→a<n.places.toNat→(∀ x ∈ L,x<v + 1)→stepV n.places.toNat F v a b≤c:=by
  intro k
  induction k with
  | zero =>
   intro L a b c hk hc ha hx
   have:L=[]:=List.length_eq_zero_iff.1 (by omega)
   exact Int.le_trans (h2 a b) (hL L a b c hc ha (by rw [this];intro x hx;simp at hx))
  | succ k ih =>
   intro L a b c hk hc ha hx
   by_cases hvL:v ∈ L
   ·obtain⟨l1,l2,c1,c2,g1,g2,g3,g4,g5⟩:=z934 hc hvL
    have e1:=ih l1 a v c1 (by omega) g1 ha (fun x hh=>hx x (g5 x (.inl hh)))
    have e2:=ih l2 v b c2 (by omega) g2 hv (fun x hh=>hx x (g5 x (.inr hh)))
    have e3:=h4 a (List.mem_range.2 ha) b (z1254 hg hc ha).1
    have e4:stepV n.places.toNat F v a v=F a v:=(h3 a).1
    have e5:stepV n.places.toNat F v v b=F v b:=(h3 b).2
    have e6:stepV n.places.toNat F v a b≤F a v + F v b:=e3
    omega
   ·exact Int.le_trans (h2 a b) (hL L a b c hc ha fun x hh=>by
     have:=hx x hh
     have:x≠v:=fun e=>hvL (e ▸ hh)
     omega)
 exact fun L a b c hc ha hx=>key L.length L a b c (Nat.le_refl _) hc ha hx
theorem z950 {n:Net} {p:Party}:∀ (l:List (Nat × Path)) (F:Mat),(∀ x y,(l.foldl (relaxM p) F) x y≤F x y)∧∀ w ∈ l,(l.foldl (relaxM p) F) w.2.frm.toNat w.2.to.toNat≤(spanW w.2 p).hi
 | [],F=>⟨fun _ _=>Int.le_refl _,fun w hw=>by simp at hw⟩
 | w::l,F=>by
  obtain⟨h1,h2⟩:=z950 (n:=n) l (relaxM p F w)
  have h3:∀ x y,relaxM p F w x y≤F x y:=fun x y=>by
   rw [relaxM,updM]
   split
   ·rename_i hc;rw [hc.1,hc.2];omega
   ·exact Int.le_refl _
  refine⟨fun x y=>Int.le_trans (h1 x y) (h3 x y),fun u hu=>?_⟩
  rcases List.mem_cons.1 hu with rfl | hu
  ·refine Int.le_trans (h1 _ _) ?_
   rw [relaxM,updM,if_pos ⟨rfl,rfl⟩]
   omega
  ·exact h2 u hu
theorem z110 {n:Net} {p:Party} (hn:n.Good) (hp:p.Good):∀ (l:List (Nat × Path)) (F:Mat),(∀ w ∈ l,w ∈ canL n p)→SoundM n p F→SoundM n p (l.foldl (relaxM p) F)
 | [],F,_,h=>h
 | w::l,F,hl,h=>by
  have hw:=hl w (by simp)
  obtain⟨_,h2,_⟩:=z107 hw
  have ho:=(z562 (hn.path w.2 (List.mem_of_getElem? h2)) hp).1
  unfold okTime at ho
  exact z110 hn hp l _ (fun u hu=>hl u (by simp [hu])) (z904 hw (by omega) h)
theorem z975 {n:Net} {p:Party} (hn:n.Good) (hp:p.Good):SoundM n p (allM n p)∧Least n p n.places.toNat (allM n p):=by
 rw [z386 n p rfl]
 obtain⟨B,hB⟩:∃ B,B=(canL n p).foldl (relaxM p) zeroM:=⟨_,rfl⟩
 have hS:SoundM n p B:=hB ▸ z110 hn hp _ _ (fun w hw=>hw) (z201 n p)
 have hL:Least n p 0 B:=by
  intro L a b c hc ha hx
  have hLe:L=[]:=by
   cases L with
   | nil=>rfl
   | cons x L=>exact absurd (hx x (by simp)) (Nat.not_lt_zero x)
  obtain⟨r1,r2⟩:=z950 (n:=n) (p:=p) (canL n p) zeroM
  rw [← hB] at r1 r2
  cases hc with
  | nil=>have:=r1 a a;rw [zeroM,if_pos rfl] at this;exact this
  | one hw=>exact r2 _ hw
  | app h1 h2=>simp at hLe
 rw [← hB]
 have:∀ k,k≤n.places.toNat→SoundM n p ((List.range k).foldl (stepV n.places.toNat) B)∧Least n p k ((List.range k).foldl (stepV n.places.toNat) B):=by
  intro k
  induction k with
  | zero=>exact fun _=>⟨hS,hL⟩
  | succ k ih =>
   intro hk
   obtain⟨h1,h2⟩:=ih (by omega)
   rw [z60]
   exact⟨(z267 n.places.toNat k (List.range n.places.toNat) _ h1).1,z1057 hn h1 h2 (by omega)⟩
 exact this _ (Nat.le_refl _)
end Go.Ab
namespace Go.Ab
open Go.RowKit Go.Proofs
set_option maxHeartbeats 2000000
structure NiceB (m:Nat) (F:Mat) (S:List SpotT):Prop where
 spots:SpotsOk m S
 min:∀ p i,p<m→i<S.length→0≤minW F S p i
 wt:∀ s,s<32→(∀ i ∈ elems s,i<S.length)→0≤weightW S s∧weightW S s≤500
def valB (F:Mat) (S:List SpotT) (rec:Nat→Nat→Int × Int) (p s i:Nat):Int:=wr (wr (minW F S p i * weightW S s) + (rec (nextP S i) (s - 2 ^ i)).1)
theorem z368 {F:Mat} {S:List SpotT} {rec:Nat→Nat→Int × Int} {p s:Nat}:∀ (l:List Nat) (a:Int × Int),(l.foldl (pureB F S rec p s) a).1≤a.1∧(∀ i ∈ l,¬ minW F S p i ≥ farW→(l.foldl (pureB F S rec p s) a).1≤valB F S rec p s i) ∧
  (l.foldl (pureB F S rec p s) a=a∨∃ i ∈ l,¬ minW F S p i ≥ farW∧l.foldl (pureB F S rec p s) a=(valB F S rec p s i,(i:Int))∧valB F S rec p s i<a.1)
 | [],a=>⟨Int.le_refl _,fun i hi=>by simp at hi,.inl rfl⟩
 | i::l,a=>by
  obtain⟨h1,h2,h3⟩:=z368 (F:=F) (S:=S) (rec:=rec) (p:=p) (s:=s) l (pureB F S rec p s a i)
  rw [List.foldl_cons]
  by_cases hf:minW F S p i ≥ farW
  ·have e:pureB F S rec p s a i=a:=by rw [pureB,if_pos hf]
   rw [e] at h1 h2 h3 ⊢
   refine⟨h1,fun j hj hn=>?_,?_⟩
   ·rcases List.mem_cons.1 hj with rfl | hj
    ·exact absurd hf hn
    ·exact h2 j hj hn
   ·rcases h3 with h3 | ⟨j,hj,g⟩
    ·exact .inl h3
    ·exact .inr ⟨j,by simp [hj],g⟩
  ·have e:pureB F S rec p s a i=pickB (valB F S rec p s i) i a:=by rw [pureB,if_neg hf,valB]
   rw [e] at h1 h2 h3 ⊢
   by_cases hlt:valB F S rec p s i<a.1
   ·have e2:pickB (valB F S rec p s i) i a=(valB F S rec p s i,(i:Int)):=by rw [pickB,if_pos hlt]
    rw [e2] at h1 h2 h3 ⊢
    dsimp only at h1 h3
    refine⟨by omega,fun j hj hn=>?_,.inr ?_⟩
    ·rcases List.mem_cons.1 hj with rfl | hj
     ·exact h1
     ·exact h2 j hj hn
    ·rcases h3 with h3 | ⟨j,hj,g1,g2,g3⟩
     ·exact⟨i,by simp,hf,h3,hlt⟩
     ·exact⟨j,by simp [hj],g1,g2,by omega⟩
   ·have e2:pickB (valB F S rec p s i) i a=a:=by rw [pickB,if_neg hlt]
    rw [e2] at h1 h2 h3 ⊢
    refine⟨h1,fun j hj hn=>?_,?_⟩
    ·rcases List.mem_cons.1 hj with rfl | hj
     ·omega
     ·exact h2 j hj hn
    ·rcases h3 with h3 | ⟨j,hj,g⟩
     ·exact .inl h3
     ·exact .inr ⟨j,by simp [hj],g⟩
theorem z169 {m:Nat} {S:List SpotT} (h:SpotsOk m S) {i:Nat} (hi:i<S.length):nextP S i<m:=by
 have:=h.pl (spotAt S i) (List.mem_of_getElem? (z88 hi))
 rw [nextP];omega
theorem z1092 {m:Nat} {F:Mat} {S:List SpotT} (hN:NiceB m F S) {rec:Nat→Nat→Int × Int} {p s i:Nat} (hp:p<m) (hs:s<32) (hS:∀ j ∈ elems s,j<S.length) (hi:i ∈ elems s) (hf:¬ minW F S p i ≥ farW) (hr:0≤(rec (nextP S i) (s - 2 ^ i)).1∧(rec (nextP S i) (s - 2 ^ i)).1≤farW) :
  valB F S rec p s i=minW F S p i * weightW S s + (rec (nextP S i) (s - 2 ^ i)).1∧(rec (nextP S i) (s - 2 ^ i)).1≤valB F S rec p s i:=by
 have h1:=hN.min p i hp (hS i hi)
 obtain⟨h2,h3⟩:=hN.wt s hs hS
 have hfw:farW=1099511627776:=rfl
 have h4:0≤minW F S p i * weightW S s:=Int.mul_nonneg h1 h2
 have h5:minW F S p i * weightW S s≤1099511627776 * 500:=Int.mul_le_mul (by omega) h3 h2 (by decide)
 rw [valB]
 have e1:wr (minW F S p i * weightW S s)=minW F S p i * weightW S s:=z9 (by omega)
 rw [e1]
 have e2:wr (minW F S p i * weightW S s + (rec (nextP S i) (s - 2 ^ i)).1)=minW F S p i * weightW S s + (rec (nextP S i) (s - 2 ^ i)).1:=z9 (by omega)
 rw [e2]
 exact⟨rfl,by omega⟩
theorem z135 {m:Nat} {F:Mat} {S:List SpotT} (hN:NiceB m F S):∀ (f p s:Nat),p<m→s<32→(∀ i ∈ elems s,i<S.length)→0≤(bestV F S f p s).1∧(bestV F S f p s).1≤farW
 | 0,p,s,_,_,_=>⟨Int.le_refl _,by rw [bestV];decide⟩
 | f + 1,p,s,hp,hs,hS=>by
  rw [bestV]
  split
  ·exact⟨Int.le_refl _,by decide⟩
  ·obtain⟨h1,_,h3⟩:=z368 (F:=F) (S:=S) (rec:=bestV F S f) (p:=p) (s:=s) (elems s) (farW,-1)
   refine⟨?_,h1⟩
   rcases h3 with h3 | ⟨i,hi,hf,h3,_⟩
   ·rw [h3];decide
   ·obtain⟨u1,_,u3⟩:=z45 hs hi
    have hr:=z135 hN f (nextP S i) (s - 2 ^ i) (z169 hN.spots (hS i hi)) u1 (fun j hj=>hS j (u3 j hj))
    have:=(z1092 hN hp hs hS hi hf hr).2
    rw [h3]
    dsimp only
    omega
theorem z1264 {m:Nat} {F:Mat} {S:List SpotT} (hN:NiceB m F S):∀ (f p s:Nat) (M:MemB),p<m→s<32→(∀ i ∈ elems s,i<S.length)→(elems s).length≤f→SoundB F S M→(bestV F S 5 p s).1<farW→OrdOk F S f p s M
 | 0,p,s,M,_,hs,_,hf,_,_=>z68 s hs (by omega)
 | f + 1,p,s,M,hp,hs,hS,hf,hM,hc=>by
  by_cases h0:s=0
  ·exact .inl h0
  ·refine .inr ?_
   obtain⟨b1,b2⟩:=z127 (F:=F) (S:=S) 5 p s M hs (z19 s hs) (Nat.le_refl _) hM
   have e5:bestV F S 5 p s=(elems s).foldl (pureB F S (bestV F S 4) p s) (farW,-1):=by rw [bestV,if_neg h0]
   obtain⟨_,_,h3⟩:=z368 (F:=F) (S:=S) (rec:=bestV F S 4) (p:=p) (s:=s) (elems s) (farW,-1)
   rw [← e5] at h3
   rcases h3 with h3 | ⟨i,hi,hfar,h3,h4⟩
   ·rw [h3] at hc;exact absurd hc (Int.lt_irrefl _)
   ·obtain⟨u1,u2,u3⟩:=z45 hs hi
    have hnl:=z169 hN.spots (hS i hi)
    have hr:=z135 hN 4 (nextP S i) (s - 2 ^ i) hnl u1 (fun j hj=>hS j (u3 j hj))
    have hv:=(z1092 hN hp hs hS hi hfar hr).2
    have h45:bestV F S 4 (nextP S i) (s - 2 ^ i)=bestV F S 5 (nextP S i) (s - 2 ^ i):=z161 _ _ _ _ u1 (by have:=z19 s hs;omega) (z19 _ u1)
    refine⟨i,hi,by rw [b1,h3],z1264 hN f (nextP S i) (s - 2 ^ i) _ hnl u1 (fun j hj=>hS j (u3 j hj)) (by omega) b2 ?_⟩
    rw [h45] at hv
    dsimp only at h4
    omega
theorem z595 {S:List SpotT} (hw:∀ s ∈ S,0≤s.wt∧s.wt≤100) {s:Nat} (hs:s<32) (hS:∀ i ∈ elems s,i<S.length):0≤weightW S s∧weightW S s≤500:=by
 have key:∀ (l:List Nat) (a:Int),(∀ i ∈ l,i<S.length)→0≤a→a + 100 * l.length≤1000→a≤l.foldl (fun a i=>wr (a + (spotAt S i).wt)) a∧l.foldl (fun a i=>wr (a + (spotAt S i).wt)) a≤a + 100 * l.length:=by
  intro l
  induction l with
  | nil=>intro a _ _ _;simp
  | cons i l ih =>
   intro a hl ha hb
   have hwi:=hw (spotAt S i) (List.mem_of_getElem? (z88 (hl i (by simp))))
   rw [List.length_cons] at hb ⊢
   have e:wr (a + (spotAt S i).wt)=a + (spotAt S i).wt:=z9 (by omega)
   rw [List.foldl_cons,e]
   have:=ih (a + (spotAt S i).wt) (fun j hj=>hl j (by simp [hj])) (by omega) (by omega)
   omega
 have hl:=z19 s hs
 have:=key (elems s) 0 hS (Int.le_refl _) (by omega)
 rw [weightW]
 omega
theorem z1042 {n:Net} {p:Party} {bases:List Int} {S:List SpotT} (h:readyE n p bases S=0) (hl:S.length≤5):NiceB n.places.toNat (allM n p) S:=by
 obtain⟨hn,hp,_,hsp,_,_⟩:=z116 h
 have hA:=(z975 hn hp).1
 refine⟨⟨hl,fun s hs=>by have:=(hsp s hs).1;omega⟩,fun q i _ hi=>?_,fun s hs hS=>z595 (fun t ht=>(hsp t ht).2.1) hs hS⟩
 have h1:=hA q (spotAt S i).pl.toNat
 have h2:=(hsp (spotAt S i) (List.mem_of_getElem? (z88 hi))).2.2
 have hfw:farW=1099511627776:=rfl
 have e:wr (allM n p q (spotAt S i).pl.toNat + (spotAt S i).se)=allM n p q (spotAt S i).pl.toNat + (spotAt S i).se:=z9 (by omega)
 rw [minW,e]
 omega
end Go.Ab
namespace Go.Ab
open Go.RowKit Go.Proofs
set_option maxHeartbeats 2000000
theorem z1075:∀ s:Nat,s<32→∀ i:Nat,i<5→i ∈ elems s→(elems s).isPerm (i::elems (s - 2 ^ i))=true:=by decide +kernel
theorem z587 {s i:Nat} (hs:s<32) (hi:i ∈ elems s):(elems s).Perm (i::elems (s - 2 ^ i)):=List.isPerm_iff.1 (z1075 s hs i (z319 hi) hi)
def sumW (S:List SpotT) (l:List Nat):Int:=l.foldr (fun i a=>(spotAt S i).wt + a) 0
theorem z340 {S:List SpotT} {l k:List Nat} (h:l.Perm k):sumW S l=sumW S k:=by
 induction h with
 | nil=>rfl
 | cons x _ ih=>simp only [sumW,List.foldr_cons] at ih ⊢;rw [ih]
 | swap x y l=>simp only [sumW,List.foldr_cons];omega
 | trans _ _ ih1 ih2=>rw [ih1,ih2]
theorem z981 {S:List SpotT} (hw:∀ s ∈ S,0≤s.wt∧s.wt≤100) {s:Nat} (hs:s<32) (hS:∀ i ∈ elems s,i<S.length):weightW S s=sumW S (elems s):=by
 have key:∀ (l:List Nat) (a:Int),(∀ i ∈ l,i<S.length)→0≤a→a + 100 * l.length≤1000→l.foldl (fun a i=>wr (a + (spotAt S i).wt)) a=a + sumW S l:=by
  intro l
  induction l with
  | nil=>intro a _ _ _;simp [sumW]
  | cons i l ih =>
   intro a hl ha hb
   have hwi:=hw (spotAt S i) (List.mem_of_getElem? (z88 (hl i (by simp))))
   rw [List.length_cons] at hb
   have e:wr (a + (spotAt S i).wt)=a + (spotAt S i).wt:=z9 (by omega)
   rw [List.foldl_cons,e,ih (a + (spotAt S i).wt) (fun j hj=>hl j (by simp [hj])) (by omega) (by omega)]
   simp only [sumW,List.foldr_cons]
   omega
 have hl:=z19 s hs
 have:=key (elems s) 0 hS (Int.le_refl _) (by omega)
 rw [weightW,this,Int.zero_add]
structure OneB (m b:Nat) (F:Mat) (S:List SpotT):Prop where
 nice:NiceB m F S
 base:b<m
 self:F b b=0
 at0:∀ i,i<S.length→nextP S i=b
 wt:∀ s ∈ S,0≤s.wt∧s.wt≤100
 se:∀ s ∈ S,0≤s.se∧s.se≤600
end Go.Ab
namespace Go.Ab
open Go.RowKit Go.Proofs
set_option maxHeartbeats 2000000
def Bnd (F:Mat) (K:Int):Prop:=∀ a b,F a b<farW→F a b≤K
def Near (n:Net) (p:Party) (v:Nat) (K:Int) (G:Mat):Prop:=SoundM n p G∧(∀ x,G x v<farW→G x v≤K)∧(∀ x,G v x<farW→G v x≤K)∧Bnd G (2 * K)
theorem z946 {n:Net} {p:Party} {v:Nat} {K:Int} {G:Mat} (x y:Nat) (h:Near n p v K G):Near n p v K (viaM v G x y):=by
 obtain⟨h1,h2,h3,h4⟩:=h
 refine⟨z610 h1 v x y,fun a=>?_,fun a=>?_,fun a b hl=>?_⟩
 ·rw [(z796 h1 v x y a).1];exact h2 a
 ·rw [(z796 h1 v x y a).2];exact h3 a
 ·rw [viaM,updM,z461 h1] at hl ⊢
  split at hl
  ·rename_i hc
   rw [if_pos hc]
   have g1:=h1 x v
   have g2:=h1 v y
   have g3:=h4 x y
   have g4:=h2 x
   have g5:=h3 y
   omega
  ·rename_i hc
   rw [if_neg hc]
   exact h4 a b hl
theorem z370 {α:Type} {n:Net} {p:Party} {v:Nat} {K:Int} (f:Mat→α→Mat) (hf:∀ G a,Near n p v K G→Near n p v K (f G a)):∀ (l:List α) (G:Mat),Near n p v K G→Near n p v K (l.foldl f G)
 | [],_,h=>h
 | a::l,G,h=>z370 f hf l _ (hf G a h)
theorem z561 {n:Net} {p:Party} {m v:Nat} {K:Int} {F:Mat} (hK:0≤K) (hS:SoundM n p F) (hB:Bnd F K):SoundM n p (stepV m F v)∧Bnd (stepV m F v) (2 * K):=by
 have h:=z370 (stepA m v) (fun G a h=>z370 (fun F b=>viaM v F a b) (fun G b h=>z946 a b h) _ G h) (List.range m) F (n:=n) (p:=p) (v:=v) (K:=K) ⟨hS,fun x hx=>hB x v hx,fun x hx=>hB v x hx,fun a b hl=>by have:=hB a b hl;omega⟩
 exact⟨h.1,h.2.2.2⟩
theorem z152 {n:Net} {p:Party} (hn:n.Good) (hp:p.Good):∀ (l:List (Nat × Path)) (F:Mat),(∀ w ∈ l,w ∈ canL n p)→Bnd F 6000→Bnd (l.foldl (relaxM p) F) 6000
 | [],F,_,h=>h
 | w::l,F,hl,h=>by
  have hw:=hl w (by simp)
  obtain⟨_,h2,_⟩:=z107 hw
  have ho:=(z562 (hn.path w.2 (List.mem_of_getElem? h2)) hp).1
  unfold okTime at ho
  refine z152 hn hp l _ (fun u hu=>hl u (by simp [hu])) fun a b hlt=>?_
  rw [relaxM,updM] at hlt ⊢
  split at hlt
  ·rename_i hc
   rw [if_pos hc]
   omega
  ·rename_i hc
   rw [if_neg hc]
   exact h a b hlt
theorem z954:∀ k:Nat,k≤12→(6000:Int) * 2 ^ k≤24576000:=by decide
theorem z1182 {n:Net} {p:Party} (hn:n.Good) (hp:p.Good):Bnd (allM n p) 24576000:=by
 rw [z386 n p rfl]
 obtain⟨B,hB⟩:∃ B,B=(canL n p).foldl (relaxM p) zeroM:=⟨_,rfl⟩
 have hS:SoundM n p B:=hB ▸ z110 hn hp _ _ (fun w hw=>hw) (z201 n p)
 have h0:Bnd B 6000:=hB ▸ z152 hn hp _ _ (fun w hw=>hw) (fun a b hl=>by
  rw [zeroM] at hl ⊢
  split at hl
  ·rename_i hc;rw [if_pos hc];decide
  ·exact absurd hl (Int.lt_irrefl _))
 rw [← hB]
 have:∀ k:Nat,SoundM n p ((List.range k).foldl (stepV n.places.toNat) B)∧Bnd ((List.range k).foldl (stepV n.places.toNat) B) (6000 * 2 ^ k):=by
  intro k
  induction k with
  | zero=>exact⟨hS,by simpa using h0⟩
  | succ k ih =>
   rw [z60]
   have h2:(0:Int)≤6000 * 2 ^ k:=Int.mul_nonneg (by decide) (Int.pow_nonneg (by decide))
   have:=z561 (m:=n.places.toNat) (v:=k) h2 ih.1 ih.2
   refine⟨this.1,fun a b hl=>?_⟩
   have h3:=this.2 a b hl
   rw [Int.pow_succ]
   omega
 have hpl:=hn.places
 have h1:=this n.places.toNat
 exact fun a b hl=>Int.le_trans (h1.2 a b hl) (z954 _ (by omega))
end Go.Ab
namespace Go.Ab
open Go.RowKit Go.Proofs
set_option maxHeartbeats 2000000
def SameW (F G:Mat):Prop:=∀ a b,(F a b<farW∧G a b=F a b)∨(F a b=farW∧G a b=neverW)
theorem z1084:SameW zeroM zeroN:=fun a b=>by
 rw [zeroM,zeroN]
 by_cases h:a=b
 ·rw [if_pos h,if_pos h];exact .inl ⟨by decide,rfl⟩
 ·rw [if_neg h,if_neg h];exact .inr ⟨rfl,rfl⟩
theorem z350 {n:Net} {p:Party} (hn:n.Good) (hp:p.Good):∀ k:Nat,k≤n.paths.length→SameW ((canTo n p k).foldl (relaxM p) zeroM) ((n.paths.take k).foldl (relaxN p) zeroN)
 | 0,_=>z1084
 | k + 1,hk=>by
  have ih:=z350 hn hp k (by omega)
  obtain⟨y,hy⟩:∃ y,n.paths[k]?=some y:=⟨_,List.getElem?_eq_getElem (by omega)⟩
  have hB:Bnd ((canTo n p k).foldl (relaxM p) zeroM) 6000:=z152 hn hp _ _ (fun w hw=>by
   obtain⟨h1,h2,h3⟩:=z107 hw
   exact z378 h2 h3 (by omega)) (fun a b hl=>by
    rw [zeroM] at hl ⊢
    split at hl
    ·rename_i hc;rw [if_pos hc];decide
    ·exact absurd hl (Int.lt_irrefl _))
  obtain⟨F,hF⟩:∃ F,F=(canTo n p k).foldl (relaxM p) zeroM:=⟨_,rfl⟩
  obtain⟨G,hG⟩:∃ G,G=(n.paths.take k).foldl (relaxN p) zeroN:=⟨_,rfl⟩
  rw [← hF,← hG] at ih
  rw [← hF] at hB
  rw [z24 _ _ _ _ _ hy,← hG,canTo,List.foldl_append,← hF,hy]
  dsimp only
  rw [relaxN]
  by_cases hg:y.grade≤p.grade
  ·rw [if_pos hg,if_pos hg,List.foldl_cons,List.foldl_nil,relaxM]
   have ho:=(z562 (hn.path y (List.mem_of_getElem? hy)) hp).1
   unfold okTime at ho
   dsimp only
   have hfw:farW=1099511627776:=rfl
   have hnw:neverW=1073741824:=rfl
   intro a b
   have h0:=ih y.frm.toNat y.to.toNat
   have h1:=hB y.frm.toNat y.to.toNat
   rw [updM,updM]
   split
   ·left
    omega
   ·exact ih a b
  ·rw [if_neg hg,if_neg hg]
   exact ih
theorem z1191 {n:Net} {p:Party} {v:Nat} {K:Int} {F G:Mat} (x y:Nat) (hK:2 * K<neverW) (h:Near n p v K F) (hs:SameW F G):SameW (viaM v F x y) (viaM v G x y):=by
 obtain⟨h1,h2,h3,h4⟩:=h
 have hfw:farW=1099511627776:=rfl
 have hnw:neverW=1073741824:=rfl
 have e1:=z461 h1 v x y
 have g1:=h1 x v
 have g2:=h1 v y
 have g3:=h1 x y
 have g4:=h2 x
 have g5:=h3 y
 have g6:=h4 x y
 have s1:=hs x v
 have s2:=hs v y
 have s3:=hs x y
 have e2:wr (G x v + G v y)=G x v + G v y:=z9 (by omega)
 intro a b
 rw [viaM,viaM,updM,updM,e1,e2]
 split
 ·by_cases q1:F x v<farW
  ·by_cases q2:F v y<farW
   ·left;omega
   ·by_cases q3:F x y<farW
    ·left;omega
    ·right;omega
  ·by_cases q3:F x y<farW
   ·left;omega
   ·right;omega
 ·exact hs a b
theorem z280 {α:Type} {n:Net} {p:Party} {v:Nat} {K:Int} (f:Mat→α→Mat) (hf:∀ F G a,Near n p v K F→SameW F G→Near n p v K (f F a)∧SameW (f F a) (f G a)):∀ (l:List α) (F G:Mat),Near n p v K F→SameW F G→Near n p v K (l.foldl f F)∧SameW (l.foldl f F) (l.foldl f G)
 | [],_,_,h,hs=>⟨h,hs⟩
 | a::l,F,G,h,hs=>by
  obtain⟨h1,h2⟩:=hf F G a h hs
  exact z280 f hf l _ _ h1 h2
theorem z1110 {n:Net} {p:Party} {m v:Nat} {K:Int} {F G:Mat} (hK0:0≤K) (hK:2 * K<neverW) (hS:SoundM n p F) (hB:Bnd F K) (hs:SameW F G):SameW (stepV m F v) (stepV m G v) :=
 (z280 (stepA m v) (fun F G _ h hs=>z280 (fun F b=>viaM v F _ b) (fun F G b h hs=>⟨z946 _ b h,z1191 _ b hK h hs⟩) _ F G h hs) (List.range m) F G (n:=n) (p:=p) (v:=v) (K:=K) ⟨hS,fun x hx=>hB x v hx,fun x hx=>hB v x hx,fun a b hl=>by have:=hB a b hl;omega⟩ hs).2
theorem z1262 {n:Net} {p:Party} (hn:n.Good) (hp:p.Good):SameW (allM n p) (allR n p):=by
 have hpl:=hn.places
 rw [z386 n p rfl,allR]
 obtain⟨B,hB⟩:∃ B,B=(canL n p).foldl (relaxM p) zeroM:=⟨_,rfl⟩
 have hS:SoundM n p B:=hB ▸ z110 hn hp _ _ (fun w hw=>hw) (z201 n p)
 have h0:Bnd B 6000:=hB ▸ z152 hn hp _ _ (fun w hw=>hw) (fun a b hl=>by
  rw [zeroM] at hl ⊢
  split at hl
  ·rename_i hc;rw [if_pos hc];decide
  ·exact absurd hl (Int.lt_irrefl _))
 have hs0:SameW B (n.paths.foldl (relaxN p) zeroN):=by
  have:=z350 hn hp n.paths.length (Nat.le_refl _)
  rw [List.take_length] at this
  rw [hB]
  exact this
 rw [← hB]
 have hnw:neverW=1073741824:=rfl
 have:∀ k:Nat,k≤n.places.toNat→SoundM n p ((List.range k).foldl (stepV n.places.toNat) B)∧Bnd ((List.range k).foldl (stepV n.places.toNat) B) (6000 * 2 ^ k)∧SameW ((List.range k).foldl (stepV n.places.toNat) B) ((List.range k).foldl (stepV n.places.toNat) (n.paths.foldl (relaxN p) zeroN)):=by
  intro k
  induction k with
  | zero=>exact fun _=>⟨hS,by simpa using h0,hs0⟩
  | succ k ih =>
   intro hk
   obtain⟨i1,i2,i3⟩:=ih (by omega)
   rw [z60,z60]
   have h2:(0:Int)≤6000 * 2 ^ k:=Int.mul_nonneg (by decide) (Int.pow_nonneg (by decide))
   have h3:=z561 (m:=n.places.toNat) (v:=k) h2 i1 i2
   have h4:=z954 k (by omega)
   refine⟨h3.1,fun a b hl=>?_,z1110 h2 (by omega) i1 i2 i3⟩
   have h5:=h3.2 a b hl
   rw [Int.pow_succ]
   omega
 exact (this _ (Nat.le_refl _)).2.2
theorem z1275 {n:Net} {p:Party} (hn:n.Good) (hp:p.Good) (a b:Nat):(allM n p a b<farW∧0≤allM n p a b∧allM n p a b≤24576000∧allR n p a b=allM n p a b)∨(allM n p a b=farW∧allR n p a b=neverW):=by
 have h1:=(z975 hn hp).1 a b
 have h2:=z1182 hn hp a b
 rcases z1262 hn hp a b with h | h
 ·exact .inl ⟨h.1,h1.1,h2 h.1,h.2⟩
 ·exact .inr h
end Go.Ab
namespace Go.Ab
open Go.RowKit Go.Proofs
set_option maxHeartbeats 2000000
theorem z1081 {n:Net} {p:Party} (hn:n.Good) (hp:p.Good):Bnd (allM n p) (6000 * 2 ^ n.places.toNat):=by
 rw [z386 n p rfl]
 obtain⟨B,hB⟩:∃ B,B=(canL n p).foldl (relaxM p) zeroM:=⟨_,rfl⟩
 have hS:SoundM n p B:=hB ▸ z110 hn hp _ _ (fun w hw=>hw) (z201 n p)
 have h0:Bnd B 6000:=hB ▸ z152 hn hp _ _ (fun w hw=>hw) (fun a b hl=>by
  rw [zeroM] at hl ⊢
  split at hl
  ·rename_i hc;rw [if_pos hc];decide
  ·exact absurd hl (Int.lt_irrefl _))
 rw [← hB]
 have:∀ k:Nat,SoundM n p ((List.range k).foldl (stepV n.places.toNat) B)∧Bnd ((List.range k).foldl (stepV n.places.toNat) B) (6000 * 2 ^ k):=by
  intro k
  induction k with
  | zero=>exact⟨hS,by simpa using h0⟩
  | succ k ih =>
   rw [z60]
   have h2:(0:Int)≤6000 * 2 ^ k:=Int.mul_nonneg (by decide) (Int.pow_nonneg (by decide))
   have:=z561 (m:=n.places.toNat) (v:=k) h2 ih.1 ih.2
   refine⟨this.1,fun a b hl=>?_⟩
   have h3:=this.2 a b hl
   rw [Int.pow_succ]
   omega
 exact (this n.places.toNat).2
theorem z1216:∀ k:Nat,k≤5→(6000:Int) * 2 ^ k≤192000:=by decide
structure PlanB (m:Nat) (F G:Mat) (S:List SpotT):Prop where
 nice:NiceB m F S
 mat:∀ a b,(F a b<farW∧0≤F a b∧F a b≤192000∧G a b=F a b)∨(F a b=farW∧G a b=neverW)
 wt:∀ s ∈ S,0≤s.wt∧s.wt≤100
 se:∀ s ∈ S,0≤s.se∧s.se≤600
theorem z1263 {n:Net} {p:Party} {bases:List Int} {S:List SpotT} (h:readyE n p bases S=0) (hl:S.length≤5) (h5:n.places≤5):PlanB n.places.toNat (allM n p) (allR n p) S:=by
 obtain⟨hn,hp,_,hsp,_,_⟩:=z116 h
 refine⟨z1042 h hl,fun a b=>?_,fun s hs=>(hsp s hs).2.1,fun s hs=>(hsp s hs).2.2⟩
 have h1:=z1081 hn hp a b
 have h2:=z1216 n.places.toNat (by omega)
 rcases z1275 hn hp a b with ⟨g1,g2,_,g4⟩ | g
 ·exact .inl ⟨g1,g2,Int.le_trans (h1 g1) h2,g4⟩
 ·exact .inr g
def reachL (F:Mat) (S:List SpotT):Nat→List Nat→Prop
 | _,[]=>True
 | p,i::l=>F p (nextP S i)<farW∧reachL F S (nextP S i) l
def endL (F:Mat) (S:List SpotT):Nat→List Nat→Int
 | _,[]=>0
 | p,i::l=>F p (nextP S i) + (spotAt S i).se + endL F S (nextP S i) l
def costL (F:Mat) (S:List SpotT):Nat→List Nat→Int
 | _,[]=>0
 | p,i::l=>(F p (nextP S i) + (spotAt S i).se) * sumW S (i::l) + costL F S (nextP S i) l
theorem z1416 {m:Nat} {F G:Mat} {S:List SpotT} (h:PlanB m F G S) {i:Nat} (hi:i<S.length):0≤(spotAt S i).wt∧(spotAt S i).wt≤100:=h.wt _ (List.mem_of_getElem? (z88 hi))
theorem z1313 {m:Nat} {F G:Mat} {S:List SpotT} (h:PlanB m F G S) {i:Nat} (hi:i<S.length):0≤(spotAt S i).se∧(spotAt S i).se≤600:=h.se _ (List.mem_of_getElem? (z88 hi))
theorem z234 {m:Nat} {F G:Mat} {S:List SpotT} (h:PlanB m F G S):∀ l:List Nat,(∀ i ∈ l,i<S.length)→0≤sumW S l∧sumW S l≤100 * l.length
 | [],_=>⟨Int.le_refl _,by simp [sumW]⟩
 | i::l,hl=>by
  have h1:=z234 h l (fun j hj=>hl j (by simp [hj]))
  have h2:=z1416 h (hl i (by simp))
  have e:sumW S (i::l)=(spotAt S i).wt + sumW S l:=rfl
  rw [e,List.length_cons]
  omega
theorem z766 {m:Nat} {F G:Mat} {S:List SpotT} (h:PlanB m F G S):∀ (l:List Nat) (p:Nat),(∀ i ∈ l,i<S.length)→reachL F S p l→0≤endL F S p l∧endL F S p l≤192600 * l.length
 | [],_,_,_=>⟨Int.le_refl _,by simp [endL]⟩
 | i::l,p,hl,hr=>by
  rw [reachL] at hr
  have h1:=z766 h l (nextP S i) (fun j hj=>hl j (by simp [hj])) hr.2
  have h2:=z1313 h (hl i (by simp))
  have h3:=h.mat p (nextP S i)
  rw [endL,List.length_cons]
  omega
theorem z159 {m:Nat} {F G:Mat} {S:List SpotT} (h:PlanB m F G S):∀ (l:List Nat) (p:Nat),l.length≤5→(∀ i ∈ l,i<S.length)→reachL F S p l→0≤costL F S p l∧costL F S p l≤96300000 * l.length
 | [],_,_,_,_=>⟨Int.le_refl _,by simp [costL]⟩
 | i::l,p,h5,hl,hr=>by
  rw [reachL] at hr
  rw [List.length_cons] at h5
  have h1:=z159 h l (nextP S i) (by omega) (fun j hj=>hl j (by simp [hj])) hr.2
  have h2:=z1313 h (hl i (by simp))
  have h3:=h.mat p (nextP S i)
  have h4:=z234 h (i::l) hl
  rw [List.length_cons] at h4
  have q1:0≤F p (nextP S i) + (spotAt S i).se:=by omega
  have q2:F p (nextP S i) + (spotAt S i).se≤192600:=by omega
  have q3:(F p (nextP S i) + (spotAt S i).se) * sumW S (i::l)≤192600 * 500:=Int.mul_le_mul q2 (by omega) h4.1 (by decide)
  have q4:0≤(F p (nextP S i) + (spotAt S i).se) * sumW S (i::l):=Int.mul_nonneg q1 h4.1
  rw [costL,List.length_cons]
  omega
def costF (G:Mat) (S:List SpotT):Nat→Int→Int→List Nat→Int × Int
 | _,c,e,[]=>(c,e)
 | p,c,e,i::l=>if G p (nextP S i) ≥ neverW then (neverW,neverW) else
  costF G S (nextP S i) (wr (c + wr ((spotAt S i).wt * wr (e + wr (G p (nextP S i) + (spotAt S i).se))))) (wr (e + wr (G p (nextP S i) + (spotAt S i).se))) l
theorem z1172 {m:Nat} {F G:Mat} {S:List SpotT} (h:PlanB m F G S):∀ (l:List Nat) (p:Nat) (c e:Int),¬ reachL F S p l→costF G S p c e l=(neverW,neverW)
 | [],_,_,_,hr=>absurd trivial hr
 | i::l,p,c,e,hr=>by
  rw [costF]
  have h3:=h.mat p (nextP S i)
  by_cases hc:G p (nextP S i) ≥ neverW
  ·rw [if_pos hc]
  ·rw [if_neg hc]
   refine z1172 h l _ _ _ fun hh=>hr ⟨?_,hh⟩
   omega
theorem z968 {m:Nat} {F G:Mat} {S:List SpotT} (h:PlanB m F G S):∀ (l:List Nat) (p:Nat) (c e:Int),(∀ i ∈ l,i<S.length)→reachL F S p l→0≤c→c≤10000000000 * (60 - l.length)→0≤e→e≤192600 * (60 - l.length)→l.length≤60 →
  costF G S p c e l=(c + e * sumW S l + costL F S p l,e + endL F S p l)
 | [],p,c,e,_,_,_,_,_,_,_=>by simp [costF,sumW,costL,endL]
 | i::l,p,c,e,hl,hr,hc0,hc1,he0,he1,h60=>by
  rw [reachL] at hr
  rw [List.length_cons] at hc1 he1 h60
  have h2:=z1313 h (hl i (by simp))
  have hw:=z1416 h (hl i (by simp))
  have h3:=h.mat p (nextP S i)
  have hnw:neverW=1073741824:=rfl
  have hfw:farW=1099511627776:=rfl
  have hG:G p (nextP S i)=F p (nextP S i):=by omega
  have hF:0≤F p (nextP S i)∧F p (nextP S i)≤192000:=by omega
  rw [costF,if_neg (by omega),hG]
  obtain⟨f,hf⟩:∃ f,f=F p (nextP S i):=⟨_,rfl⟩
  obtain⟨s,hs⟩:∃ s,s=(spotAt S i).se:=⟨_,rfl⟩
  obtain⟨w,hww⟩:∃ w,w=(spotAt S i).wt:=⟨_,rfl⟩
  have esum:sumW S (i::l)=(spotAt S i).wt + sumW S l:=rfl
  rw [costL,endL,esum]
  rw [← hf] at hF ⊢
  rw [← hs] at h2 ⊢
  rw [← hww] at hw ⊢
  have e1:wr (f + s)=f + s:=z9 (by omega)
  have e2:wr (e + (f + s))=e + (f + s):=z9 (by omega)
  have q1:0≤w * (e + (f + s)):=Int.mul_nonneg hw.1 (by omega)
  have q2:w * (e + (f + s))≤100 * (192600 * 60):=Int.mul_le_mul hw.2 (by omega) (by omega) (by decide)
  have e3:wr (w * (e + (f + s)))=w * (e + (f + s)):=z9 (by omega)
  have e4:wr (c + w * (e + (f + s)))=c + w * (e + (f + s)):=z9 (by omega)
  rw [e1,e2,e3,e4,z968 h l (nextP S i) _ _ (fun j hj=>hl j (by simp [hj])) hr.2 (by omega) (by omega) (by omega) (by omega) (by omega)]
  refine Prod.ext ?_ (by dsimp only;omega)
  dsimp only
  rw [Int.add_mul e,Int.mul_add (f + s),Int.mul_add w,Int.mul_add e,Int.mul_comm w e,Int.mul_comm w (f + s)]
  omega
theorem z933 {m:Nat} {F G:Mat} {S:List SpotT} (h:PlanB m F G S) {l:List Nat} (hl:∀ i ∈ l,i<S.length) (h5:l.length≤5) (p:Nat) :
  (reachL F S p l∧costF G S p 0 0 l=(costL F S p l,endL F S p l)∧costL F S p l<neverW∧endL F S p l<neverW)∨(¬ reachL F S p l∧costF G S p 0 0 l=(neverW,neverW)):=by
 have hnw:neverW=1073741824:=rfl
 by_cases hr:reachL F S p l
 ·have h1:=z159 h l p h5 hl hr
  have h2:=z766 h l p hl hr
  have e:=z968 h l p 0 0 hl hr (Int.le_refl _) (by omega) (Int.le_refl _) (by omega) (by omega)
  rw [Int.zero_mul,Int.zero_add,Int.zero_add,Int.zero_add] at e
  exact .inl ⟨hr,e,by omega,by omega⟩
 ·exact .inr ⟨hr,z1172 h l p 0 0 hr⟩
theorem z200 (s:Nat):(elems s).Pairwise (·<·):=List.Pairwise.filter _ List.pairwise_lt_range
theorem z497 {F:Mat} {S:List SpotT} {rec:Nat→Nat→Int × Int} {p s:Nat}:∀ (l:List Nat) (a:Int × Int),l.Pairwise (·<·) →
  (l.foldl (pureB F S rec p s) a=a∧∀ j ∈ l,¬ minW F S p j ≥ farW→a.1≤valB F S rec p s j) ∨
  ∃ i ∈ l,¬ minW F S p i ≥ farW∧l.foldl (pureB F S rec p s) a=(valB F S rec p s i,(i:Int))∧valB F S rec p s i<a.1∧(∀ j ∈ l,¬ minW F S p j ≥ farW→valB F S rec p s i≤valB F S rec p s j) ∧
   ∀ j ∈ l,j<i→¬ minW F S p j ≥ farW→valB F S rec p s i<valB F S rec p s j
 | [],a,_=>.inl ⟨rfl,fun j hj=>by simp at hj⟩
 | i::l,a,hs=>by
  obtain⟨hs1,hs2⟩:=List.pairwise_cons.1 hs
  have ih:=z497 (F:=F) (S:=S) (rec:=rec) (p:=p) (s:=s) l (pureB F S rec p s a i) hs2
  rw [List.foldl_cons]
  by_cases hf:minW F S p i ≥ farW
  ·have e:pureB F S rec p s a i=a:=by rw [pureB,if_pos hf]
   rw [e] at ih ⊢
   rcases ih with ⟨h1,h2⟩ | ⟨k,hk,h1,h2,h3,h4,h5⟩
   ·refine .inl ⟨h1,fun j hj hn=>?_⟩
    rcases List.mem_cons.1 hj with rfl | hj
    ·exact absurd hf hn
    ·exact h2 j hj hn
   ·refine .inr ⟨k,by simp [hk],h1,h2,h3,fun j hj hn=>?_,fun j hj hlt hn=>?_⟩
    ·rcases List.mem_cons.1 hj with rfl | hj
     ·exact absurd hf hn
     ·exact h4 j hj hn
    ·rcases List.mem_cons.1 hj with rfl | hj
     ·exact absurd hf hn
     ·exact h5 j hj hlt hn
  ·have e:pureB F S rec p s a i=pickB (valB F S rec p s i) i a:=by rw [pureB,if_neg hf,valB]
   rw [e] at ih ⊢
   by_cases hlt:valB F S rec p s i<a.1
   ·have e2:pickB (valB F S rec p s i) i a=(valB F S rec p s i,(i:Int)):=by rw [pickB,if_pos hlt]
    rw [e2] at ih ⊢
    dsimp only at ih
    rcases ih with ⟨h1,h2⟩ | ⟨k,hk,h1,h2,h3,h4,h5⟩
    ·refine .inr ⟨i,by simp,hf,h1,hlt,fun j hj hn=>?_,fun j hj hji hn=>?_⟩
     ·rcases List.mem_cons.1 hj with rfl | hj
      ·exact Int.le_refl _
      ·exact h2 j hj hn
     ·rcases List.mem_cons.1 hj with rfl | hj
      ·exact absurd hji (Nat.lt_irrefl _)
      ·have:=hs1 j hj;omega
    ·refine .inr ⟨k,by simp [hk],h1,h2,by omega,fun j hj hn=>?_,fun j hj hjk hn=>?_⟩
     ·rcases List.mem_cons.1 hj with rfl | hj
      ·omega
      ·exact h4 j hj hn
     ·rcases List.mem_cons.1 hj with rfl | hj
      ·exact h3
      ·exact h5 j hj hjk hn
   ·have e2:pickB (valB F S rec p s i) i a=a:=by rw [pickB,if_neg hlt]
    rw [e2] at ih ⊢
    rcases ih with ⟨h1,h2⟩ | ⟨k,hk,h1,h2,h3,h4,h5⟩
    ·refine .inl ⟨h1,fun j hj hn=>?_⟩
     rcases List.mem_cons.1 hj with rfl | hj
     ·omega
     ·exact h2 j hj hn
    ·refine .inr ⟨k,by simp [hk],h1,h2,h3,fun j hj hn=>?_,fun j hj hjk hn=>?_⟩
     ·rcases List.mem_cons.1 hj with rfl | hj
      ·omega
      ·exact h4 j hj hn
     ·rcases List.mem_cons.1 hj with rfl | hj
      ·omega
      ·exact h5 j hj hjk hn
def firstV (F:Mat) (S:List SpotT) (p s i:Nat):Int:=(F p (nextP S i) + (spotAt S i).se) * sumW S (elems s) + (bestV F S 5 (nextP S i) (s - 2 ^ i)).1
theorem z1169 {m:Nat} {F G:Mat} {S:List SpotT} (h:PlanB m F G S) {p s i:Nat} (hp:p<m) (hs:s<32) (hS:∀ j ∈ elems s,j<S.length) (hi:i ∈ elems s) :
  (¬ minW F S p i ≥ farW↔F p (nextP S i)<farW)∧(F p (nextP S i)<farW→valB F S (bestV F S 4) p s i=firstV F S p s i):=by
 have hfw:farW=1099511627776:=rfl
 have h2:=z1313 h (hS i hi)
 have h3:=h.mat p (nextP S i)
 have e0:minW F S p i=F p (nextP S i) + (spotAt S i).se:=by
  rw [minW]
  exact z9 (by rw [← nextP];omega)
 have e1:¬ minW F S p i ≥ farW↔F p (nextP S i)<farW:=by rw [e0];omega
 refine⟨e1,fun hf=>?_⟩
 obtain⟨u1,u2,u3⟩:=z45 hs hi
 have hr:=z135 h.nice 4 (nextP S i) (s - 2 ^ i) (z169 h.nice.spots (hS i hi)) u1 (fun j hj=>hS j (u3 j hj))
 rw [(z1092 h.nice hp hs hS hi (e1.2 hf) hr).1,firstV,e0,z981 h.wt hs hS,z161 4 5 (nextP S i) (s - 2 ^ i) u1 (by have:=z19 s hs;omega) (z19 _ u1)]
theorem z285 {m:Nat} {F G:Mat} {S:List SpotT} (h:PlanB m F G S) {p s:Nat} (hp:p<m) (hs:s<32) (hS:∀ j ∈ elems s,j<S.length) (h0:s≠0) :
  (bestV F S 5 p s=(farW,-1)∧∀ j ∈ elems s,F p (nextP S j)<farW→farW≤firstV F S p s j) ∨
  ∃ i ∈ elems s,F p (nextP S i)<farW∧bestV F S 5 p s=(firstV F S p s i,(i:Int))∧firstV F S p s i<farW∧(∀ j ∈ elems s,F p (nextP S j)<farW→firstV F S p s i≤firstV F S p s j) ∧
   ∀ j ∈ elems s,j<i→F p (nextP S j)<farW→firstV F S p s i<firstV F S p s j:=by
 have e5:bestV F S 5 p s=(elems s).foldl (pureB F S (bestV F S 4) p s) (farW,-1):=by rw [bestV,if_neg h0]
 have hf:=z497 (F:=F) (S:=S) (rec:=bestV F S 4) (p:=p) (s:=s) (elems s) (farW,-1) (z200 s)
 rw [← e5] at hf
 have hv:=fun j hj=>z1169 h hp hs hS (i:=j) hj
 rcases hf with ⟨h1,h2⟩ | ⟨i,hi,h1,h2,h3,h4,h5⟩
 ·refine .inl ⟨h1,fun j hj hn=>?_⟩
  have:=h2 j hj ((hv j hj).1.2 hn)
  rw [(hv j hj).2 hn] at this
  exact this
 ·have hfi:=(hv i hi).1.1 h1
  rw [(hv i hi).2 hfi] at h2 h3 h4 h5
  refine .inr ⟨i,hi,hfi,h2,h3,fun j hj hn=>?_,fun j hj hji hn=>?_⟩
  ·have:=h4 j hj ((hv j hj).1.2 hn)
   rwa [(hv j hj).2 hn] at this
  ·have:=h5 j hj hji ((hv j hj).1.2 hn)
   rwa [(hv j hj).2 hn] at this
theorem z351 {s i:Nat} {l:List Nat} (hs:s<32) (h:(i::l).Perm (elems s)):i ∈ elems s∧l.Perm (elems (s - 2 ^ i)):=by
 have hi:i ∈ elems s:=h.mem_iff.1 (by simp)
 exact⟨hi,List.Perm.cons_inv (h.trans (z587 hs hi))⟩
theorem z937 {m:Nat} {F G:Mat} {S:List SpotT} (h:PlanB m F G S):∀ (l:List Nat) (p s:Nat),p<m→s<32→(∀ j ∈ elems s,j<S.length)→l.Perm (elems s)→reachL F S p l→(bestV F S 5 p s).1≤costL F S p l
 | [],p,s,_,hs,_,hl,_=>by
  have h0:s=0:=z68 s hs (by rw [← hl.length_eq];rfl)
  subst h0
  rw [bestV,if_pos rfl]
  exact Int.le_refl _
 | i::l,p,s,hp,hs,hS,hl,hr=>by
  obtain⟨hi,hl2⟩:=z351 hs hl
  rw [reachL] at hr
  obtain⟨u1,u2,u3⟩:=z45 hs hi
  have ih:=z937 h l (nextP S i) (s - 2 ^ i) (z169 h.nice.spots (hS i hi)) u1 (fun j hj=>hS j (u3 j hj)) hl2 hr.2
  have h0:s≠0:=fun h0=>by subst h0;rw [z87] at hi;simp at hi
  have hle:(bestV F S 5 p s).1≤firstV F S p s i:=by
   rcases z285 h hp hs hS h0 with ⟨h1,h2⟩ | ⟨k,_,_,h2,_,h4,_⟩
   ·rw [h1];exact h2 i hi hr.1
   ·rw [h2];exact h4 i hi hr.1
  rw [costL,z340 hl]
  rw [firstV] at hle
  omega
def orderV (F:Mat) (S:List SpotT):Nat→Nat→Nat→List Nat
 | 0,_,_=>[]
 | f + 1,p,s=>if s=0 then [] else (bestV F S 5 p s).2.toNat::orderV F S f (nextP S (bestV F S 5 p s).2.toNat) (s - 2 ^ (bestV F S 5 p s).2.toNat)
def earlierB:List Nat→List Nat→Bool
 | a::l,b::k=>if a=b then earlierB l k else decide (a<b)
 | _,_=>false
theorem z154 {m:Nat} {F G:Mat} {S:List SpotT} (h:PlanB m F G S):∀ (f p s:Nat),p<m→s<32→(∀ j ∈ elems s,j<S.length)→(elems s).length≤f→(bestV F S 5 p s).1<farW →
  (orderV F S f p s).Perm (elems s)∧reachL F S p (orderV F S f p s)∧costL F S p (orderV F S f p s)=(bestV F S 5 p s).1 ∧
   ∀ l:List Nat,l.Perm (elems s)→reachL F S p l→costL F S p l=(bestV F S 5 p s).1→earlierB l (orderV F S f p s)=false
 | 0,p,s,_,hs,_,hf,_=>by
  have h0:s=0:=z68 s hs (by omega)
  subst h0
  refine⟨by rw [orderV,z87],trivial,by rw [orderV,costL,bestV,if_pos rfl],fun l hl _ _=>?_⟩
  rw [z87,List.perm_nil] at hl
  rw [hl,orderV];rfl
 | f + 1,p,s,hp,hs,hS,hf,hc=>by
  by_cases h0:s=0
  ·subst h0
   refine⟨by rw [orderV,if_pos rfl,z87],by rw [orderV,if_pos rfl];trivial,by rw [orderV,if_pos rfl,costL,bestV,if_pos rfl],fun l hl _ _=>?_⟩
   rw [z87,List.perm_nil] at hl
   rw [hl,orderV,if_pos rfl];rfl
  ·rcases z285 h hp hs hS h0 with ⟨h1,h2⟩ | ⟨i,hi,hfi,h2,h3,h4,h5⟩
   ·rw [h1] at hc;exact absurd hc (Int.lt_irrefl _)
   ·obtain⟨u1,u2,u3⟩:=z45 hs hi
    have hnl:=z169 h.nice.spots (hS i hi)
    have hrg:=z135 h.nice 5 (nextP S i) (s - 2 ^ i) hnl u1 (fun j hj=>hS j (u3 j hj))
    have hsum:=z234 h (elems s) hS
    have hse:=z1313 h (hS i hi)
    have hm:=h.mat p (nextP S i)
    have hpos:0≤(F p (nextP S i) + (spotAt S i).se) * sumW S (elems s):=Int.mul_nonneg (by omega) hsum.1
    have hrest:(bestV F S 5 (nextP S i) (s - 2 ^ i)).1<farW:=by rw [firstV] at h3;omega
    obtain⟨g1,g2,g3,g4⟩:=z154 h f (nextP S i) (s - 2 ^ i) hnl u1 (fun j hj=>hS j (u3 j hj)) (by omega) hrest
    have eo:orderV F S (f + 1) p s=i::orderV F S f (nextP S i) (s - 2 ^ i):=by rw [orderV,if_neg h0,h2];rfl
    have hperm:(i::orderV F S f (nextP S i) (s - 2 ^ i)).Perm (elems s):=(List.Perm.cons i g1).trans (z587 hs hi).symm
    rw [eo,h2]
    refine⟨hperm,⟨hfi,g2⟩,?_,fun l hl hr hcl=>?_⟩
    ·rw [costL,z340 hperm,g3,firstV]
    ·cases l with
     | nil=>rfl
     | cons j k =>
      obtain⟨hj,hk⟩:=z351 hs hl
      rw [reachL] at hr
      obtain⟨v1,v2,v3⟩:=z45 hs hj
      have hle:=z937 h k (nextP S j) (s - 2 ^ j) (z169 h.nice.spots (hS j hj)) v1 (fun x hx=>hS x (v3 x hx)) hk hr.2
      rw [costL,z340 hl] at hcl
      dsimp only at hcl
      rw [earlierB]
      by_cases hji:j=i
      ·subst hji
       rw [if_pos rfl]
       refine g4 k hk hr.2 ?_
       rw [firstV] at hcl
       omega
      ·rw [if_neg hji]
       apply decide_eq_false
       intro hlt
       have:=h5 j hj hlt hr.1
       have e:firstV F S p s j=(F p (nextP S j) + (spotAt S j).se) * sumW S (elems s) + (bestV F S 5 (nextP S j) (s - 2 ^ j)).1:=rfl
       omega
end Go.Ab
namespace Go.Ab
open Go.RowKit Go.Proofs
set_option maxHeartbeats 2000000
def ordersL:Nat→Nat→List (List Nat)
 | 0,_=>[[]]
 | f + 1,s=>if s=0 then [[]] else (elems s).flatMap fun i=>(ordersL f (s - 2 ^ i)).map (i::·)
theorem z208:∀ (f s:Nat),s<32→(elems s).length≤f→∀ l:List Nat,l ∈ ordersL f s↔l.Perm (elems s)
 | 0,s,hs,hf,l=>by
  have h0:s=0:=z68 s hs (by omega)
  subst h0
  rw [ordersL,z87,List.perm_nil]
  simp
 | f + 1,s,hs,hf,l=>by
  rw [ordersL]
  by_cases h0:s=0
  ·subst h0
   rw [if_pos rfl,z87,List.perm_nil]
   simp
  ·rw [if_neg h0,List.mem_flatMap]
   constructor
   ·rintro⟨i,hi,hl⟩
    obtain⟨k,hk,rfl⟩:=List.mem_map.1 hl
    obtain⟨u1,u2,_⟩:=z45 hs hi
    exact (List.Perm.cons i ((z208 f (s - 2 ^ i) u1 (by omega) k).1 hk)).trans (z587 hs hi).symm
   ·intro hl
    cases l with
    | nil =>
     have:=hl.length_eq
     have h1:=z68 s hs (by rw [← this];rfl)
     exact absurd h1 h0
    | cons i k =>
     obtain⟨hi,hk⟩:=z351 hs hl
     obtain⟨u1,u2,_⟩:=z45 hs hi
     exact⟨i,hi,List.mem_map.2 ⟨k,(z208 f (s - 2 ^ i) u1 (by omega) k).2 hk,rfl⟩⟩
theorem z477:∀ (f s:Nat),(ordersL f s).Pairwise (fun a b=>earlierB a b=true)
 | 0,s=>by rw [ordersL];exact List.pairwise_singleton _ _
 | f + 1,s=>by
  rw [ordersL]
  by_cases h0:s=0
  ·rw [if_pos h0];exact List.pairwise_singleton _ _
  ·rw [if_neg h0,List.pairwise_flatMap]
   refine⟨fun i _=>?_,?_⟩
   ·rw [List.pairwise_map]
    refine (z477 f (s - 2 ^ i)).imp ?_
    intro a b h
    rw [earlierB,if_pos rfl]
    exact h
   ·refine (z200 s).imp ?_
    intro i j hij x hx y hy
    obtain⟨a,_,rfl⟩:=List.mem_map.1 hx
    obtain⟨b,_,rfl⟩:=List.mem_map.1 hy
    rw [earlierB,if_neg (by omega)]
    exact decide_eq_true hij
def bestStep (c:List Nat→Int) (a:List Nat × Int) (l:List Nat):List Nat × Int:=if c l<a.2 then (l,c l) else a
theorem z958 (c:List Nat→Int):∀ (L:List (List Nat)) (a:List Nat × Int),(L.foldl (bestStep c) a=a∧∀ l ∈ L,a.2≤c l) ∨
  ∃ L1 l L2,L=L1++l::L2∧L.foldl (bestStep c) a=(l,c l)∧c l<a.2∧(∀ x ∈ L1,c l<c x)∧∀ x ∈ L2,c l≤c x
 | [],a=>.inl ⟨rfl,fun l hl=>by simp at hl⟩
 | x::L,a=>by
  have ih:=z958 c L (bestStep c a x)
  rw [List.foldl_cons]
  by_cases h:c x<a.2
  ·have e:bestStep c a x=(x,c x):=by rw [bestStep,if_pos h]
   rw [e] at ih ⊢
   dsimp only at ih
   rcases ih with ⟨h1,h2⟩ | ⟨L1,l,L2,rfl,h2,h3,h4,h5⟩
   ·exact .inr ⟨[],x,L,rfl,h1,h,fun y hy=>by simp at hy,h2⟩
   ·refine .inr ⟨x::L1,l,L2,rfl,h2,by omega,fun y hy=>?_,h5⟩
    rcases List.mem_cons.1 hy with rfl | hy
    ·exact h3
    ·exact h4 y hy
  ·have e:bestStep c a x=a:=by rw [bestStep,if_neg h]
   rw [e] at ih ⊢
   rcases ih with ⟨h1,h2⟩ | ⟨L1,l,L2,rfl,h2,h3,h4,h5⟩
   ·refine .inl ⟨h1,fun y hy=>?_⟩
    rcases List.mem_cons.1 hy with rfl | hy
    ·omega
    ·exact h2 y hy
   ·refine .inr ⟨x::L1,l,L2,rfl,h2,h3,fun y hy=>?_,h5⟩
    rcases List.mem_cons.1 hy with rfl | hy
    ·omega
    ·exact h4 y hy
def bestD (G:Mat) (S:List SpotT) (b s:Nat):List Nat × Int:=(ordersL 5 s).foldl (bestStep fun l=>(costF G S b 0 0 l).1) ([],neverW)
theorem z780 {m:Nat} {F G:Mat} {S:List SpotT} (h:PlanB m F G S) {p s:Nat} (hp:p<m) (hs:s<32) (hS:∀ j ∈ elems s,j<S.length) :
  bestD G S p s=if (bestV F S 5 p s).1<farW then (orderV F S 5 p s,(bestV F S 5 p s).1) else ([],neverW):=by
 have hlen:=z19 s hs
 have hmem:=z208 5 s hs hlen
 have hlex:=z477 5 s
 have hcost:∀ l ∈ ordersL 5 s,(reachL F S p l∧(costF G S p 0 0 l).1=costL F S p l∧costL F S p l<neverW)∨(¬ reachL F S p l∧(costF G S p 0 0 l).1=neverW):=by
  intro l hl
  have hp:=(hmem l).1 hl
  rcases z933 h (l:=l) (fun i hi=>hS i (hp.mem_iff.1 hi)) (by rw [hp.length_eq];exact hlen) p with ⟨h1,h2,h3,_⟩ | ⟨h1,h2⟩
  ·exact .inl ⟨h1,by rw [h2],h3⟩
  ·exact .inr ⟨h1,by rw [h2]⟩
 rw [bestD]
 rcases z958 (fun l=>(costF G S p 0 0 l).1) (ordersL 5 s) ([],neverW) with ⟨h1,h2⟩ | ⟨L1,l,L2,hL,h2,h3,h4,h5⟩
 ·rw [h1,if_neg]
  intro hc
  obtain⟨o1,o2,o3,_⟩:=z154 h 5 p s hp hs hS hlen hc
  have hm:=(hmem _).2 o1
  have g1:=h2 _ hm
  rcases hcost _ hm with ⟨_,c2,c3⟩ | ⟨c1,_⟩
  ·rw [c2] at g1;exact absurd c3 (by dsimp only at g1;omega)
  ·exact c1 o2
 ·have hml:l ∈ ordersL 5 s:=by rw [hL];simp
  dsimp only at h3
  rcases hcost l hml with ⟨c1,c2,c3⟩ | ⟨_,c2⟩
  ·have hle:=z937 h l p s hp hs hS ((hmem l).1 hml) c1
   have hnw:neverW=1073741824:=rfl
   have hfw:farW=1099511627776:=rfl
   have hc:(bestV F S 5 p s).1<farW:=by omega
   obtain⟨o1,o2,o3,o4⟩:=z154 h 5 p s hp hs hS hlen hc
   have hm:=(hmem _).2 o1
   have oc:(costF G S p 0 0 (orderV F S 5 p s)).1=(bestV F S 5 p s).1:=by
    rcases hcost _ hm with ⟨_,d2,_⟩ | ⟨d1,_⟩
    ·rw [d2,o3]
    ·exact absurd o2 d1
   rw [h2,if_pos hc,c2]
   have hno:costL F S p l=(bestV F S 5 p s).1∧l=orderV F S 5 p s:=by
    rw [hL] at hm
    rcases List.mem_append.1 hm with hm | hm
    ·have:=h4 _ hm
     rw [oc,c2] at this
     omega
    ·rcases List.mem_cons.1 hm with hm | hm
     ·rw [hm] at oc
      exact⟨by rw [← c2];exact oc,hm.symm⟩
     ·have h6:=h5 _ hm
      rw [oc,c2] at h6
      have e:costL F S p l=(bestV F S 5 p s).1:=by omega
      rw [hL,List.pairwise_append] at hlex
      have:=(List.pairwise_cons.1 hlex.2.1).1 _ hm
      rw [o4 l ((hmem l).1 hml) c1 e] at this
      cases this
   rw [hno.1,hno.2]
  ·rw [c2] at h3;exact absurd h3 (Int.lt_irrefl _)
theorem z957 {m:Nat} {F G:Mat} {S:List SpotT} (h:PlanB m F G S):∀ (f p s:Nat) (M:MemB),p<m→s<32→(∀ j ∈ elems s,j<S.length)→(elems s).length≤f→SoundB F S M→(bestV F S 5 p s).1<farW →
  (orderM F S f p s M).1=(orderV F S f p s).map (fun (i:Nat)=>(i:Int))∧SoundB F S (orderM F S f p s M).2
 | 0,p,s,M,_,_,_,_,hM,_=>⟨rfl,hM⟩
 | f + 1,p,s,M,hp,hs,hS,hf,hM,hc=>by
  rw [orderM,orderV]
  by_cases h0:s=0
  ·rw [if_pos h0,if_pos h0];exact⟨rfl,hM⟩
  ·rw [if_neg h0,if_neg h0]
   obtain⟨b1,b2⟩:=z127 (F:=F) (S:=S) 5 p s M hs (z19 s hs) (Nat.le_refl _) hM
   rw [b1]
   rcases z285 h hp hs hS h0 with ⟨h1,h2⟩ | ⟨i,hi,hfi,h2,h3,_,_⟩
   ·rw [h1] at hc;exact absurd hc (Int.lt_irrefl _)
   ·obtain⟨u1,u2,u3⟩:=z45 hs hi
    have hse:=z1313 h (hS i hi)
    have hm:=h.mat p (nextP S i)
    have hsum:=z234 h (elems s) hS
    have hpos:0≤(F p (nextP S i) + (spotAt S i).se) * sumW S (elems s):=Int.mul_nonneg (by omega) hsum.1
    have ih:=z957 h f (nextP S i) (s - 2 ^ i) (bestM F S 5 p s M).2 (z169 h.nice.spots (hS i hi)) u1 (fun j hj=>hS j (u3 j hj)) (by omega) b2 (by rw [firstV] at h3;omega)
    rw [h2]
    dsimp only
    rw [Int.toNat_natCast,ih.1,List.map_cons]
    exact⟨rfl,ih.2⟩
end Go.Ab
namespace Go.Ab
open Go.RowKit Go.Proofs
set_option maxHeartbeats 2000000
def setOf (l:List Nat):Nat:=l.foldr (fun i s=>s ||| 2 ^ i) 0
theorem z1076:∀ k:Nat,k≤5→elems (2 ^ k - 1)=List.range k:=by decide +kernel
def doneV (F:Mat) (S:List SpotT) (b:Nat):Nat→Nat→Nat→Int
 | 0,_,_=>0
 | f + 1,s,last=>if s - 2 ^ last=0 then minW F S b last else (elems (s - 2 ^ last)).foldl (fun a i=>min a (wr (doneV F S b f (s - 2 ^ last) i + minW F S (nextP S i) last))) farW
def lastP (S:List SpotT):Nat→List Nat→Nat
 | p,[]=>p
 | _,i::l=>lastP S (nextP S i) l
def byB (F:Mat) (S:List SpotT) (b:Nat) (mi:Int) (s:Nat):Bool:=(elems s).any fun i=>decide (doneV F S b 5 s i≤mi)
def mostV (F:Mat) (S:List SpotT) (b:Nat) (mi:Int):Int:=(List.range (fullN S + 1)).foldl (fun a s=>if byB F S b mi s then max a (weightW S s) else a) 0
end Go.Ab
namespace Go.Ab
open Go.RowKit Go.Proofs
set_option maxHeartbeats 2000000
def subs (s:Nat):List Nat:=((List.range (s + 1)).filter fun o=>o &&& s == o).reverse
theorem z43 {s o:Nat}:o ∈ subs s↔o &&& s=o:=by
 rw [subs,List.mem_reverse,List.mem_filter,List.mem_range]
 simp only [beq_iff_eq]
 refine⟨fun h=>h.2,fun h=>⟨?_,h⟩⟩
 have:o &&& s≤s:=Nat.and_le_right
 omega
theorem z1034:((List.range 32).all fun s=>(subs s).all fun o=>decide (o≤s∧s - o<32) && (elems s).isPerm (elems o++elems (s - o)))=true:=by decide +kernel
theorem z41 {s o:Nat} (hs:s<32) (ho:o &&& s=o):o≤s∧o<32∧s - o<32∧(elems s).Perm (elems o++elems (s - o)):=by
 have h:=List.all_eq_true.1 (List.all_eq_true.1 z1034 s (List.mem_range.2 hs)) o (z43.2 ho)
 rw [Bool.and_eq_true,decide_eq_true_eq] at h
 exact⟨h.1.1,by omega,h.1.2,List.isPerm_iff.1 h.2⟩
def shareStep (F:Mat) (S:List SpotT) (rec:Nat→MemB→(Int × List Nat) × MemB) (b s:Nat) (a:(Int × List Nat) × MemB) (o:Nat):(Int × List Nat) × MemB :=
 (if wr ((bestM F S 5 b o a.2).1.1 + (rec (s - o) (bestM F S 5 b o a.2).2).1.1)<a.1.1 then (wr ((bestM F S 5 b o a.2).1.1 + (rec (s - o) (bestM F S 5 b o a.2).2).1.1),o::(rec (s - o) (bestM F S 5 b o a.2).2).1.2) else a.1,(rec (s - o) (bestM F S 5 b o a.2).2).2)
def shareM (F:Mat) (S:List SpotT):List Nat→Nat→MemB→(Int × List Nat) × MemB
 | [],_,m=>((farW,[]),m)
 | [b],s,m=>(((bestM F S 5 b s m).1.1,[s]),(bestM F S 5 b s m).2)
 | b::c::t,s,m=>(subs s).foldl (shareStep F S (shareM F S (c::t)) b s) ((farW,[]),(bestM F S 5 b s m).2)
def pureS (F:Mat) (S:List SpotT) (rec:Nat→Int × List Nat) (b s:Nat) (a:Int × List Nat) (o:Nat):Int × List Nat :=
 if wr ((bestV F S 5 b o).1 + (rec (s - o)).1)<a.1 then (wr ((bestV F S 5 b o).1 + (rec (s - o)).1),o::(rec (s - o)).2) else a
def shareV (F:Mat) (S:List SpotT):List Nat→Nat→Int × List Nat
 | [],_=>(farW,[])
 | [b],s=>((bestV F S 5 b s).1,[s])
 | b::c::t,s=>(subs s).foldl (pureS F S (shareV F S (c::t)) b s) (farW,[])
theorem z471 {F:Mat} {S:List SpotT} {rec:Nat→MemB→(Int × List Nat) × MemB} {recV:Nat→Int × List Nat} {b s:Nat} (hs:s<32) (hr:∀ x m,x<32→SoundB F S m→(rec x m).1=recV x∧SoundB F S (rec x m).2) :
  ∀ (l:List Nat) (a:(Int × List Nat) × MemB),(∀ o ∈ l,o &&& s=o)→SoundB F S a.2→(l.foldl (shareStep F S rec b s) a).1=l.foldl (pureS F S recV b s) a.1∧SoundB F S (l.foldl (shareStep F S rec b s) a).2
 | [],a,_,h=>⟨rfl,h⟩
 | o::l,a,hl,h=>by
  obtain⟨g1,g2,g3,_⟩:=z41 hs (hl o (by simp))
  obtain⟨b1,b2⟩:=z127 (F:=F) (S:=S) 5 b o a.2 g2 (z19 o g2) (Nat.le_refl _) h
  obtain⟨r1,r2⟩:=hr (s - o) (bestM F S 5 b o a.2).2 g3 b2
  rw [List.foldl_cons,List.foldl_cons]
  obtain⟨q1,q2⟩:=z471 hs hr l (shareStep F S rec b s a o) (fun x hx=>hl x (by simp [hx])) r2
  refine⟨?_,q2⟩
  rw [q1]
  congr 1
  rw [shareStep,pureS,b1,r1]
theorem z469 {F:Mat} {S:List SpotT}:∀ (bs:List Nat) (s:Nat) (m:MemB),s<32→SoundB F S m→(shareM F S bs s m).1=shareV F S bs s∧SoundB F S (shareM F S bs s m).2
 | [],s,m,_,h=>⟨rfl,h⟩
 | [b],s,m,hs,h=>by
  obtain⟨b1,b2⟩:=z127 (F:=F) (S:=S) 5 b s m hs (z19 s hs) (Nat.le_refl _) h
  rw [shareM,shareV,b1]
  exact⟨rfl,b2⟩
 | b::c::t,s,m,hs,h=>by
  obtain⟨b1,b2⟩:=z127 (F:=F) (S:=S) 5 b s m hs (z19 s hs) (Nat.le_refl _) h
  rw [shareM,shareV]
  exact z471 hs (fun x m hx hm=>z469 (c::t) x m hx hm) (subs s) _ (fun o ho=>z43.1 ho) b2
def PartS:List Nat→Nat→List Nat→Prop
 | [],_,_=>False
 | [_],s,xs=>xs=[s]
 | _::c::t,s,xs=>∃ o r,xs=o::r∧o &&& s=o∧PartS (c::t) (s - o) r
def sumV (F:Mat) (S:List SpotT):List Nat→List Nat→Int
 | b::bs,x::xs=>(bestV F S 5 b x).1 + sumV F S bs xs
 | _,_=>0
theorem z160 {m:Nat} {F G:Mat} {S:List SpotT} (h:PlanB m F G S) {p s:Nat} (hp:p<m) (hs:s<32) (hS:∀ j ∈ elems s,j<S.length) :
  0≤(bestV F S 5 p s).1∧((bestV F S 5 p s).1=farW∨(bestV F S 5 p s).1≤96300000 * (elems s).length):=by
 have h1:=z135 h.nice 5 p s hp hs hS
 refine⟨h1.1,?_⟩
 by_cases hc:(bestV F S 5 p s).1<farW
 ·obtain⟨o1,o2,o3,_⟩:=z154 h 5 p s hp hs hS (z19 s hs) hc
  have:=z159 h _ p (by rw [o1.length_eq];exact z19 s hs) (fun i hi=>hS i (o1.mem_iff.1 hi)) o2
  rw [o1.length_eq,o3] at this
  exact .inr this.2
 ·exact .inl (by omega)
theorem z369 {F:Mat} {S:List SpotT} {rec:Nat→Int × List Nat} {b s:Nat} (g:Nat→Int):∀ (l:List Nat) (a:Int × List Nat),(∀ o ∈ l,wr ((bestV F S 5 b o).1 + (rec (s - o)).1)=g o) →
  ((l.foldl (pureS F S rec b s) a).1≤a.1∧∀ o ∈ l,(l.foldl (pureS F S rec b s) a).1≤g o)∧(l.foldl (pureS F S rec b s) a=a∨∃ o ∈ l,l.foldl (pureS F S rec b s) a=(g o,o::(rec (s - o)).2))
 | [],a,_=>⟨⟨Int.le_refl _,fun o ho=>by simp at ho⟩,.inl rfl⟩
 | x::l,a,hg=>by
  obtain⟨⟨h1,h2⟩,h3⟩:=z369 g l (pureS F S rec b s a x) (fun o ho=>hg o (by simp [ho]))
  rw [List.foldl_cons]
  have hgx:=hg x (by simp)
  have e:pureS F S rec b s a x=if g x<a.1 then (g x,x::(rec (s - x)).2) else a:=by rw [pureS,hgx]
  by_cases hc:g x<a.1
  ·rw [if_pos hc] at e
   rw [e] at h1 h2 h3 ⊢
   dsimp only at h1
   refine⟨⟨by omega,fun o ho=>?_⟩,.inr ?_⟩
   ·rcases List.mem_cons.1 ho with rfl | ho
    ·exact h1
    ·exact h2 o ho
   ·rcases h3 with h3 | ⟨o,ho,h3⟩
    ·exact⟨x,by simp,h3⟩
    ·exact⟨o,by simp [ho],h3⟩
  ·rw [if_neg hc] at e
   rw [e] at h1 h2 h3 ⊢
   refine⟨⟨h1,fun o ho=>?_⟩,?_⟩
   ·rcases List.mem_cons.1 ho with rfl | ho
    ·omega
    ·exact h2 o ho
   ·rcases h3 with h3 | ⟨o,ho,h3⟩
    ·exact .inl h3
    ·exact .inr ⟨o,by simp [ho],h3⟩
theorem z343 {m:Nat} {F G:Mat} {S:List SpotT} (h:PlanB m F G S):∀ (bs:List Nat) (s:Nat),bs≠[]→(∀ b ∈ bs,b<m)→s<32→(∀ j ∈ elems s,j<S.length) →
  (0≤(shareV F S bs s).1∧((shareV F S bs s).1=farW∨(shareV F S bs s).1≤96300000 * (elems s).length)) ∧
  (∀ xs,PartS bs s xs→(shareV F S bs s).1≤sumV F S bs xs) ∧
  ((shareV F S bs s).1<farW→PartS bs s (shareV F S bs s).2∧sumV F S bs (shareV F S bs s).2=(shareV F S bs s).1)
 | [],s,h0,_,_,_=>absurd rfl h0
 | [b],s,_,hb,hs,hS=>by
  rw [shareV]
  refine⟨z160 h (hb b (by simp)) hs hS,fun xs hx=>?_,fun _=>⟨rfl,by simp [sumV]⟩⟩
  rw [PartS] at hx
  subst hx
  simp [sumV]
 | b::c::t,s,_,hb,hs,hS=>by
  have hfw:farW=1099511627776:=rfl
  rw [shareV]
  have hsub:∀ o,o &&& s=o→(∀ j ∈ elems o,j<S.length)∧∀ j ∈ elems (s - o),j<S.length:=fun o ho=>by
   obtain⟨_,_,_,g4⟩:=z41 hs ho
   exact⟨fun j hj=>hS j (g4.mem_iff.2 (by simp [hj])),fun j hj=>hS j (g4.mem_iff.2 (by simp [hj]))⟩
  have ih:=fun o (ho:o &&& s=o)=>z343 h (c::t) (s - o) (by simp) (fun x hx=>hb x (by simp at hx ⊢;exact .inr hx)) (z41 hs ho).2.2.1 (hsub o ho).2
  have hbr:=fun o (ho:o &&& s=o)=>z160 h (hb b (by simp)) (z41 hs ho).2.1 (hsub o ho).1
  have hlen:∀ o,o &&& s=o→(elems o).length + (elems (s - o)).length=(elems s).length:=fun o ho=>by
   have:=(z41 hs ho).2.2.2.length_eq
   simp at this;omega
  have h5:=z19 s hs
  have hg:∀ o ∈ subs s,wr ((bestV F S 5 b o).1 + (shareV F S (c::t) (s - o)).1)=(bestV F S 5 b o).1 + (shareV F S (c::t) (s - o)).1:=fun o ho=>by
   have h1:=hbr o (z43.1 ho)
   have h2:=(ih o (z43.1 ho)).1
   have h3:=hlen o (z43.1 ho)
   exact z9 (by omega)
  obtain⟨⟨zf1,zf2⟩,zf3⟩:=z369 (fun o=>(bestV F S 5 b o).1 + (shareV F S (c::t) (s - o)).1) (subs s) (farW,[]) hg
  dsimp only at zf1
  refine⟨?_,fun xs hx=>?_,fun hc=>?_⟩
  ·rcases zf3 with zf3 | ⟨o,ho,zf3⟩
   ·rw [zf3];exact⟨by rw [hfw];decide,.inl rfl⟩
   ·have h1:=hbr o (z43.1 ho)
    have h2:=(ih o (z43.1 ho)).1
    have h3:=hlen o (z43.1 ho)
    rw [zf3] at zf1 ⊢
    dsimp only at zf1 ⊢
    omega
  ·rw [PartS] at hx
   obtain⟨o,r,rfl,ho,hr⟩:=hx
   have h1:=zf2 o (z43.2 ho)
   have h2:=(ih o ho).2.1 r hr
   rw [sumV]
   omega
  ·rcases zf3 with zf3 | ⟨o,ho,zf3⟩
   ·rw [zf3] at hc;exact absurd hc (Int.lt_irrefl _)
   ·have h1:=hbr o (z43.1 ho)
    rw [zf3] at hc ⊢
    dsimp only at hc ⊢
    obtain⟨p1,p2⟩:=(ih o (z43.1 ho)).2.2 (by omega)
    rw [PartS,sumV,p2]
    exact⟨⟨o,_,rfl,z43.1 ho,p1⟩,rfl⟩
def shareD (G:Mat) (S:List SpotT):List Nat→Nat→Int
 | [],_=>neverW
 | [b],s=>(bestD G S b s).2
 | b::c::t,s=>(List.range (s + 1)).foldl (fun a o=>if o &&& s=o then min a (wr ((bestD G S b o).2 + shareD G S (c::t) (s - o))) else a) neverW
theorem z470 {m:Nat} {F G:Mat} {S:List SpotT} (h:PlanB m F G S):∀ (bs:List Nat) (s:Nat),bs≠[]→(∀ b ∈ bs,b<m)→s<32→(∀ j ∈ elems s,j<S.length) →
  shareD G S bs s=if (shareV F S bs s).1<farW then (shareV F S bs s).1 else neverW
 | [],s,h0,_,_,_=>absurd rfl h0
 | [b],s,_,hb,hs,hS=>by
  rw [shareD,shareV,z780 h (hb b (by simp)) hs hS]
  split <;> rfl
 | b::c::t,s,_,hb,hs,hS=>by
  have hfw:farW=1099511627776:=rfl
  have hnw:neverW=1073741824:=rfl
  have hsub:∀ o,o &&& s=o→(∀ j ∈ elems o,j<S.length)∧∀ j ∈ elems (s - o),j<S.length:=fun o ho=>by
   obtain⟨_,_,_,g4⟩:=z41 hs ho
   exact⟨fun j hj=>hS j (g4.mem_iff.2 (by simp [hj])),fun j hj=>hS j (g4.mem_iff.2 (by simp [hj]))⟩
  have hbt:∀ x ∈ c::t,x<m:=fun x hx=>hb x (by simp at hx ⊢;exact .inr hx)
  have ih:=fun o (ho:o &&& s=o)=>z470 h (c::t) (s - o) (by simp) hbt (z41 hs ho).2.2.1 (hsub o ho).2
  have hl:=fun o (ho:o &&& s=o)=>(z343 h (c::t) (s - o) (by simp) hbt (z41 hs ho).2.2.1 (hsub o ho).2).1
  have hbr:=fun o (ho:o &&& s=o)=>z160 h (hb b (by simp)) (z41 hs ho).2.1 (hsub o ho).1
  have hbd:=fun o (ho:o &&& s=o)=>z780 h (hb b (by simp)) (z41 hs ho).2.1 (hsub o ho).1
  have hlen:∀ o,o &&& s=o→(elems o).length + (elems (s - o)).length=(elems s).length:=fun o ho=>by
   have:=(z41 hs ho).2.2.2.length_eq
   simp at this;omega
  have h5:=z19 s hs
  rw [shareD,shareV]
  obtain⟨V,hV⟩:∃ V,V=(subs s).foldl (pureS F S (shareV F S (c::t)) b s) (farW,[]):=⟨_,rfl⟩
  have hg:∀ o ∈ subs s,wr ((bestV F S 5 b o).1 + (shareV F S (c::t) (s - o)).1)=(bestV F S 5 b o).1 + (shareV F S (c::t) (s - o)).1:=fun o ho=>by
   have h1:=hbr o (z43.1 ho)
   have h2:=hl o (z43.1 ho)
   have h3:=hlen o (z43.1 ho)
   exact z9 (by omega)
  have hfp:=z369 (fun o=>(bestV F S 5 b o).1 + (shareV F S (c::t) (s - o)).1) (subs s) (farW,[]) hg
  rw [← hV] at hfp ⊢
  obtain⟨⟨zf1,zf2⟩,zf3⟩:=hfp
  dsimp only at zf1
  have key:∀ (l:List Nat) (a:Int),(l.foldl (fun a o=>if o &&& s=o then min a (wr ((bestD G S b o).2 + shareD G S (c::t) (s - o))) else a) a≤a∧∀ o ∈ l,o &&& s=o→l.foldl (fun a o=>if o &&& s=o then min a (wr ((bestD G S b o).2 + shareD G S (c::t) (s - o))) else a) a≤wr ((bestD G S b o).2 + shareD G S (c::t) (s - o))) ∧
    (l.foldl (fun a o=>if o &&& s=o then min a (wr ((bestD G S b o).2 + shareD G S (c::t) (s - o))) else a) a=a∨∃ o ∈ l,o &&& s=o∧l.foldl (fun a o=>if o &&& s=o then min a (wr ((bestD G S b o).2 + shareD G S (c::t) (s - o))) else a) a=wr ((bestD G S b o).2 + shareD G S (c::t) (s - o))):=by
   intro l
   induction l with
   | nil=>intro a;exact⟨⟨Int.le_refl _,fun o ho=>by simp at ho⟩,.inl rfl⟩
   | cons x l ihl =>
    intro a
    rw [List.foldl_cons]
    by_cases hx:x &&& s=x
    ·rw [if_pos hx]
     obtain⟨⟨g1,g2⟩,g3⟩:=ihl (min a (wr ((bestD G S b x).2 + shareD G S (c::t) (s - x))))
     refine⟨⟨by omega,fun o ho h2=>?_⟩,?_⟩
     ·rcases List.mem_cons.1 ho with rfl | ho
      ·omega
      ·exact g2 o ho h2
     ·rcases g3 with g3 | ⟨o,ho,h2,g3⟩
      ·by_cases hc:a≤wr ((bestD G S b x).2 + shareD G S (c::t) (s - x))
       ·exact .inl (by omega)
       ·exact .inr ⟨x,by simp,hx,by omega⟩
      ·exact .inr ⟨o,by simp [ho],h2,g3⟩
    ·rw [if_neg hx]
     obtain⟨⟨g1,g2⟩,g3⟩:=ihl a
     refine⟨⟨g1,fun o ho h2=>?_⟩,?_⟩
     ·rcases List.mem_cons.1 ho with rfl | ho
      ·exact absurd h2 hx
      ·exact g2 o ho h2
     ·rcases g3 with g3 | ⟨o,ho,h2,g3⟩
      ·exact .inl g3
      ·exact .inr ⟨o,by simp [ho],h2,g3⟩
  obtain⟨⟨k1,k2⟩,k3⟩:=key (List.range (s + 1)) neverW
  obtain⟨W,hW⟩:∃ W,W=(List.range (s + 1)).foldl (fun a o=>if o &&& s=o then min a (wr ((bestD G S b o).2 + shareD G S (c::t) (s - o))) else a) neverW:=⟨_,rfl⟩
  rw [← hW] at k1 k2 k3 ⊢
  have hin:∀ o,o &&& s=o→o ∈ List.range (s + 1):=fun o ho=>List.mem_range.2 (by have:=(z41 hs ho).1;omega)
  have val:∀ o,o &&& s=o→((bestV F S 5 b o).1 + (shareV F S (c::t) (s - o)).1<farW∧wr ((bestD G S b o).2 + shareD G S (c::t) (s - o))=(bestV F S 5 b o).1 + (shareV F S (c::t) (s - o)).1∧(bestV F S 5 b o).1 + (shareV F S (c::t) (s - o)).1<neverW) ∨
    (farW≤(bestV F S 5 b o).1 + (shareV F S (c::t) (s - o)).1∧neverW≤wr ((bestD G S b o).2 + shareD G S (c::t) (s - o))):=by
   intro o ho
   have h1:=hbr o ho
   have h2:=hl o ho
   have h3:=hlen o ho
   have h4:(bestD G S b o).2=if (bestV F S 5 b o).1<farW then (bestV F S 5 b o).1 else neverW:=by rw [hbd o ho];split <;> rfl
   have h6:=ih o ho
   have e:wr ((bestD G S b o).2 + shareD G S (c::t) (s - o))=(bestD G S b o).2 + shareD G S (c::t) (s - o):=z9 (by rw [h4,h6];split <;> split <;> omega)
   rw [e,h4,h6]
   split <;> split <;> omega
  by_cases hc:V.1<farW
  ·rw [if_pos hc]
   rcases zf3 with zf3 | ⟨o,ho,zf3⟩
   ·rw [zf3] at hc;exact absurd hc (Int.lt_irrefl _)
   ·have ho:=z43.1 ho
    have hVo:V.1=(bestV F S 5 b o).1 + (shareV F S (c::t) (s - o)).1:=by rw [zf3]
    have v:=val o ho
    have w:=k2 o (hin o ho) ho
    rcases k3 with k3 | ⟨q,hq,hq2,k3⟩
    ·omega
    ·have v2:=val q hq2
     have f:=zf2 q (z43.2 hq2)
     omega
  ·rw [if_neg hc]
   rcases k3 with k3 | ⟨q,hq,hq2,k3⟩
   ·exact k3
   ·have v2:=val q hq2
    have f:=zf2 q (z43.2 hq2)
    omega
end Go.Ab
namespace Go.Ab
open Go.RowKit Go.Proofs
set_option maxHeartbeats 8000000
set_option maxRecDepth 20000
attribute [local irreducible] WalkL Walk
theorem z1350 (s n:Int) (hn:0≤n∧n<2 ^ 62):Fn Tryd.prog 98 [.i s,.i n] (.bool (hasB s n)):=by
 have e1:IntKind.u64.wrap n=n:=by
  have h1:=hn.1
  have h2:=hn.2
  simp only [IntKind.wrap,IntKind.bits,IntKind.signed,Bool.false_and,Bool.false_eq_true,if_false]
  omega
 have n1:¬ n<0:=by omega
 refine z10 11 Tryd.call98 Tryd.func98 rfl (by decide) fun J=>?_
 simp only [go_sem,St.start,Tryd.ntmps98,Tryd.results98]
 repeat (first|refine nx ?_|(refine z3 fun K hK=>?_;simp only [go_sem,e1,n1];apply hK;clear hK K))
 simp only [go_sem,hasB]
def natsI (l:List Nat):List Int:=l.map fun (i:Nat)=>(i:Int)
theorem z67 (l:List Nat):(natsI l).length=l.length:=by simp [natsI]
theorem z313 {l:List Nat} {k i:Nat} (h:l[k]?=some i):(natsI l)[k]?=some (i:Int):=by simp [natsI,h]
theorem z1414 (m:Nat) (G:Mat) (S:List SpotT) (hS:SpotsOk m S) (p:Nat) (hp:p<m) (l:List Nat) (hl:∀ i ∈ l,i<S.length) (hll:l.length<2 ^ 30) :
  Fn Tryd.prog 33 [.sl (slRows (matM m G)),.i (p:Int),.sl (S.map SpotT.row),.sl (intRows (natsI l))] (.tup [.i (costF G S p 0 0 l).1,.i (costF G S p 0 0 l).2]):=by
 obtain⟨C,hC⟩:∃ C,C=costF G S p 0 0 l:=⟨_,rfl⟩
 rw [← hC]
 have hln:(intRows (natsI l)).length=l.length:=by rw [z12,z67]
 have hsl:(S.map SpotT.row).length=S.length:=by simp
 have l0:(slRows (matM m G)).length=m:=by simp [slRows,z28]
 refine z10 59 Tryd.call33 Tryd.func33 rfl (by decide) fun J=>?_
 simp only [go_sem,St.start,Tryd.ntmps33,Tryd.results33]
 repeat (first|refine nx ?_|(refine z3 fun K hK=>?_;simp only [go_sem];apply hK;clear hK K))
 refine z13 (fun (a:Nat × Nat × Int × Int)=>[(8,.d (.i a.2.2.1)),(9,.d (.i a.2.2.2)),(10,.d (.i (a.2.1:Int))),(11,.d (.i (a.1:Int))),(12,.undef)]) (fun _=>[])
  (fun a=>a.1≤l.length∧a.2.1<m∧C=costF G S a.2.1 a.2.2.1 a.2.2.2 (l.drop a.1)) (fun a=>l.length - a.1) (0,p,0,0) ?_ ⟨Nat.zero_le _,hp,by rw [hC];rfl⟩ ?_
 ·simp only [go_sem]
  refine weA ?_ ?_ <;> simp
 ·rintro⟨k,q,c,e⟩ ⟨hk,hq,hCe⟩
  dsimp only at hk hq hCe
  simp only [go_sem]
  repeat (first|refine nx ?_|(refine z3 fun K hK=>?_;simp only [go_sem,hln];apply hK;clear hK K))
  refine z5 rfl (fun hb=>?_) (fun hb=>?_)
  ·have hlt:k<l.length:=by simpa using hb
   have hw:IntKind.i64.wrap ((k:Int) + 1)=((k + 1:Nat):Int):=by rw [z9 (by omega)];simp
   obtain⟨i,hi⟩:∃ i,l[k]?=some i:=⟨_,List.getElem?_eq_getElem hlt⟩
   have him:=hl i (List.mem_of_getElem? hi)
   rw [z44 hi,costF] at hCe
   have hpl:=hS.pl (spotAt S i) (List.mem_of_getElem? (z88 him))
   have hqe:(spotAt S i).pl=(nextP S i:Int):=by rw [nextP];omega
   have hqm:nextP S i<m:=by omega
   have g0:(S.map SpotT.row)[i]?=some [.i (nextP S i:Int),.i (spotAt S i).wt,.i (spotAt S i).se]:=by rw [← hqe,List.getElem?_map,z88 him];rfl
   have g1:=z85 (z313 hi)
   have g2:=z218 (z73 (F:=G) hq)
   have g3:=z40 (z55 (F:=G) (a:=q) hqm)
   have l2:nextP S i<(intRows (rowM m G q)).length:=by rw [z12,z105];exact hqm
   have n1:¬ ((q:Int)<0):=by omega
   have n2:¬ ((nextP S i:Int)<0):=by omega
   have n3:¬ ((i:Int)<0):=by omega
   have n4:¬ ((k:Int)<0):=by omega
   obtain⟨u,hu⟩:∃ u,u=nextP S i:=⟨_,rfl⟩
   rw [← hu] at hCe hqm g0 g3 l2 n2
   repeat (first|refine nx ?_|(refine z3 fun K hK=>?_;simp only [go_sem,g0,g1,n3,n4,hlt,him,hln,hsl];apply hK;clear hK K))
   by_cases hn:G q u ≥ neverW
   ·rw [if_pos hn] at hCe
    have hd:decide (G q u ≥ 1073741824)=true:=by simpa [neverW] using hn
    refine z8 (by kernel_rfl) (by kernel_rfl) fun K hK=>?_
    simp only [go_sem,g2,g3,l0,l2,n1,n2,hq,hd]
    refine⟨by kernel_rfl,hK _ ?_⟩
    clear hK K
    refine z7 rfl ?_
    repeat (first|refine nx ?_|(refine z3 fun K hK=>?_;simp only [go_sem];apply hK;clear hK K))
    simp only [go_sem,hCe,neverW]
   ·rw [if_neg hn] at hCe
    have hd:decide (G q u ≥ 1073741824)=false:=by simpa [neverW] using hn
    refine z8 (by kernel_rfl) (by kernel_rfl) fun K hK=>?_
    simp only [go_sem,g2,g3,l0,l2,n1,n2,hq,hd]
    refine⟨by kernel_rfl,hK _ ?_⟩
    clear hK K
    refine z4 rfl ?_
    repeat (first|refine nx ?_|(refine z3 fun K hK=>?_;simp only [go_sem];apply hK;clear hK K))
    refine z8 (by kernel_rfl) (by kernel_rfl) fun K hK=>?_
    simp only [go_sem,g2,g3,l0,l2,n1,n2,hq]
    refine⟨by kernel_rfl,hK _ ?_⟩
    clear hK K
    repeat (first|refine nx ?_|(refine z3 fun K hK=>?_;simp only [go_sem,hw];apply hK;clear hK K))
    rw [wr,wr,wr,wr] at hCe
    refine⟨rfl,(k + 1,u,IntKind.i64.wrap (c + IntKind.i64.wrap ((spotAt S i).wt * IntKind.i64.wrap (e + IntKind.i64.wrap (G q u + (spotAt S i).se)))),IntKind.i64.wrap (e + IntKind.i64.wrap (G q u + (spotAt S i).se))),?_,⟨hlt,hqm,hCe⟩,by dsimp only;omega⟩
    simp only [go_sem]
    refine weA ?_ ?_ <;> simp
  ·have he:k=l.length:=by (have:¬ k<l.length:=by simpa using hb);omega
   subst he
   rw [List.drop_length,costF] at hCe
   repeat (first|refine nx ?_|(refine z3 fun K hK=>?_;simp only [go_sem];apply hK;clear hK K))
   simp only [go_sem,hCe]
def ordRows (L:List (List Nat)):List (List DV):=slRows (L.map natsI)
def eleTo (s i:Nat):List Nat:=(List.range i).filter fun j=>s.testBit j
theorem z1301:∀ s:Nat,s<32→∀ i:Nat,i<8→hasB (s:Int) (i:Int)=s.testBit i:=by decide +kernel
theorem z1271:∀ s:Nat,s<32→∀ i:Nat,i<8→s.testBit i=true→i<5∧i ∈ elems s∧IntKind.i64.wrap ((s:Int) - bShl .i64 1 (i:Int))=((s - 2 ^ i:Nat):Int):=by decide +kernel
theorem z1380:∀ i:Nat,i<8→IntKind.u64.wrap (i:Int)=(i:Int):=by decide
theorem z1306:∀ s:Nat,s<32→eleTo s 8=elems s:=by decide +kernel
theorem z966 (s i:Nat):eleTo s (i + 1)=eleTo s i++if s.testBit i then [i] else []:=by
 rw [eleTo,eleTo,List.range_succ,List.filter_append]
 congr 1
 by_cases h:s.testBit i <;> simp [h]
theorem z481 (i:Nat) (l:List Nat):natsI (i::l)=(i:Int)::natsI l:=rfl
theorem z577 (x:Int) (l:List Int):intRows (x::l)=[DV.i x]::intRows l:=rfl
theorem z719 (L:List (List Nat)) (l:List Nat):ordRows (L++[l])=ordRows L++[[.sl (intRows (natsI l))]]:=by simp [ordRows,slRows]
theorem z478 {L:List (List Nat)} {k:Nat} {l:List Nat} (h:L[k]?=some l):(ordRows L)[k]?=some [.sl (intRows (natsI l))]:=by simp [ordRows,slRows,h]
theorem z223 (L:List (List Nat)):(ordRows L).length=L.length:=by simp [ordRows,slRows]
theorem z195:∀ s:Nat,s<32→(ordersL 5 s).length≤120∧(ordersL 5 s).all (fun l=>decide (l.length≤5))=true:=by decide +kernel
theorem z222:∀ (f g s:Nat),s<32→(elems s).length≤f→(elems s).length≤g→ordersL f s=ordersL g s
 | 0,g,s,hs,hf,_=>by
  have h0:s=0:=z68 s hs (by omega)
  subst h0
  cases g
  ·rfl
  ·rw [ordersL,ordersL,if_pos rfl]
 | f + 1,0,s,hs,_,hg=>by
  have h0:s=0:=z68 s hs (by omega)
  subst h0
  rw [ordersL,ordersL,if_pos rfl]
 | f + 1,g + 1,s,hs,hf,hg=>by
  rw [ordersL,ordersL]
  by_cases h0:s=0
  ·rw [if_pos h0,if_pos h0]
  ·rw [if_neg h0,if_neg h0]
   have key:∀ l:List Nat,(∀ i ∈ l,i ∈ elems s)→(l.flatMap fun i=>(ordersL f (s - 2 ^ i)).map (i::·))=l.flatMap fun i=>(ordersL g (s - 2 ^ i)).map (i::·):=by
    intro l
    induction l with
    | nil=>intro _;rfl
    | cons i l ih =>
     intro hl
     obtain⟨u1,u2,_⟩:=z45 hs (hl i (by simp))
     rw [List.flatMap_cons,List.flatMap_cons,ih fun j hj=>hl j (by simp [hj]),z222 f g (s - 2 ^ i) u1 (by omega) (by omega)]
   exact key _ fun i hi=>hi
end Go.Ab
namespace Go.Ab
open Go.RowKit Go.Proofs
set_option maxHeartbeats 8000000
set_option maxRecDepth 20000
attribute [local irreducible] WalkL Walk
theorem z1370:∀ (f s:Nat),s<32→(elems s).length≤f→Fn Tryd.prog 120 [.i (s:Int)] (.sl (ordRows (ordersL f s))):=by
 intro f
 induction f with
 | zero =>
  intro s hs hf
  have h0:s=0:=z68 s hs (by omega)
  subst h0
  rw [ordersL]
  refine z10 41 Tryd.call120 Tryd.func120 rfl (by decide) fun J=>?_
  simp only [go_sem,St.start,Tryd.ntmps120,Tryd.results120]
  repeat (first|refine nx ?_|(refine z3 fun K hK=>?_;simp only [go_sem];apply hK;clear hK K))
  refine z7 (by rfl) ?_
  repeat (first|refine nx ?_|(refine z3 fun K hK=>?_;simp only [go_sem];apply hK;clear hK K))
  simp only [go_sem,ordRows,slRows,natsI,intRows,List.map_cons,List.map_nil]
 | succ f ih =>
  intro s hs hf
  by_cases h0:s=0
  ·subst h0
   rw [ordersL,if_pos rfl]
   refine z10 41 Tryd.call120 Tryd.func120 rfl (by decide) fun J=>?_
   simp only [go_sem,St.start,Tryd.ntmps120,Tryd.results120]
   repeat (first|refine nx ?_|(refine z3 fun K hK=>?_;simp only [go_sem];apply hK;clear hK K))
   refine z7 (by rfl) ?_
   repeat (first|refine nx ?_|(refine z3 fun K hK=>?_;simp only [go_sem];apply hK;clear hK K))
   simp only [go_sem,ordRows,slRows,natsI,intRows,List.map_cons,List.map_nil]
  ·have q0:((s:Int) == 0)=false:=by simp;omega
   have h98:=fun (i:Nat) (hi:i<8)=>z1350 (s:Int) (i:Int) ⟨by omega,by omega⟩
   have hall:ordersL (f + 1) s=(eleTo s 8).flatMap fun i=>(ordersL f (s - 2 ^ i)).map (i::·):=by rw [ordersL,if_neg h0,z1306 s hs]
   have hbig:∀ k,k≤8→((eleTo s k).flatMap fun i=>(ordersL f (s - 2 ^ i)).map (i::·)).length≤120:=fun k hk=>by
    have h1:=(z195 s hs).1
    rw [z222 5 (f + 1) s hs (z19 s hs) hf,hall] at h1
    obtain⟨d,hd⟩:∃ d,8=k + d:=⟨8 - k,by omega⟩
    rw [hd,eleTo,List.range_add,List.filter_append,← eleTo,List.flatMap_append,List.length_append] at h1
    omega
   rw [hall]
   obtain⟨g,hg⟩:∃ g,g=fun i=>(ordersL f (s - 2 ^ i)).map (i::·):=⟨_,rfl⟩
   rw [← hg] at hbig ⊢
   refine z10 41 Tryd.call120 Tryd.func120 rfl (by decide) fun J=>?_
   simp only [go_sem,St.start,Tryd.ntmps120,Tryd.results120]
   repeat (first|refine nx ?_|(refine z3 fun K hK=>?_;simp only [go_sem,q0];apply hK;clear hK K))
   refine z4 rfl ?_
   repeat (first|refine nx ?_|(refine z3 fun K hK=>?_;simp only [go_sem];apply hK;clear hK K))
   refine z13 (fun (i:Nat)=>[(4,.d (.i (i:Int))),(3,.own 39),(5,.undef),(6,.undef)]) (fun i=>[(39,some (.arr 36 1 (ordRows ((eleTo s i).flatMap g))))]) (fun i=>i≤8) (fun i=>8 - i) 0 ?_ (Nat.zero_le _) ?_
   ·simp only [go_sem,eleTo,List.range_zero,List.filter_nil,List.flatMap_nil,ordRows,slRows,List.map_nil]
    refine z26 [39] ?_ ?_ ?_ ?_
    ·simp [lessT,z74,AV.less]
    ·simp [lessM,lessB,lessT,z74,AV.less]
    ·first | rfl | simp [liveB,AV.refs,AV.refs.AV.refss]
    ·first | rfl | simp [liveM,liveB,AV.refs,AV.refs.AV.refss]
   ·intro i hi
    simp only [go_sem]
    repeat (first|refine nx ?_|(refine z3 fun K hK=>?_;simp only [go_sem];apply hK;clear hK K))
    refine z5 rfl (fun hb=>?_) (fun hb=>?_)
    ·have hlt:i<8:=by have:=of_decide_eq_true hb;omega
     have hw:IntKind.i64.wrap ((i:Int) + 1)=((i + 1:Nat):Int):=by rw [z9 (by omega)];simp
     have h98i:=h98 i hlt
     rw [z1301 s hs i hlt] at h98i
     have ew:=z1380 i hlt
     have nk:¬ ((i:Int)<0):=by omega
     cases hbit:s.testBit i
     ·have e:eleTo s (i + 1)=eleTo s i:=by rw [z966,hbit];simp
      rw [hbit] at h98i
      repeat (first|refine nx ?_|(refine z3 fun K hK=>?_;simp only [go_sem];(repeat (first|(refine⟨_,.lent (hf:=h98i) (hd:=rfl) (hr:=rfl),?_⟩;simp only [go_sem])|(refine⟨_,.given (hf:=h98i) (hd:=rfl) (ha:=rfl),?_⟩;simp only [go_sem])));apply hK;clear hK K))
      refine z7 rfl ?_
      repeat (first|refine nx ?_|(refine z3 fun K hK=>?_;simp only [go_sem,hw];apply hK;clear hK K))
      refine⟨rfl,i + 1,?_,hlt,by omega⟩
      rw [e]
      try simp only [go_sem]
      refine weA ?_ ?_ <;> simp
     ·obtain⟨i5,hie,hsub⟩:=z1271 s hs i hlt hbit
      obtain⟨u1,u2,u3⟩:=z45 hs hie
      have ihi:=ih (s - 2 ^ i) u1 (by omega)
      have hb1:=hbig (i + 1) hlt
      have e:(eleTo s (i + 1)).flatMap g=(eleTo s i).flatMap g++(ordersL f (s - 2 ^ i)).map (i::·):=by rw [z966,hbit,List.flatMap_append,hg];simp
      rw [e] at hb1
      obtain⟨X,hX⟩:∃ X,X=(eleTo s i).flatMap g:=⟨_,rfl⟩
      obtain⟨R,hR⟩:∃ R,R=ordersL f (s - 2 ^ i):=⟨_,rfl⟩
      rw [← hX,← hR] at e hb1
      rw [← hR] at ihi
      rw [← hX]
      have hrl:=z223 R
      rw [List.length_append,List.length_map] at hb1
      rw [hbit] at h98i
      repeat (first|refine nx ?_|(refine z3 fun K hK=>?_;simp only [go_sem];(repeat (first|(refine⟨_,.lent (hf:=h98i) (hd:=rfl) (hr:=rfl),?_⟩;simp only [go_sem])|(refine⟨_,.given (hf:=h98i) (hd:=rfl) (ha:=rfl),?_⟩;simp only [go_sem])));apply hK;clear hK K))
      refine z4 rfl ?_
      repeat (first|refine nx ?_|(refine z3 fun K hK=>?_;simp only [go_sem,ew,nk,hsub];(repeat (first|(refine⟨_,.lent (hf:=ihi) (hd:=rfl) (hr:=rfl),?_⟩;simp only [go_sem,ew,nk,hsub])|(refine⟨_,.given (hf:=ihi) (hd:=rfl) (ha:=rfl),?_⟩;simp only [go_sem,ew,nk,hsub])));apply hK;clear hK K))
      refine z13 (fun (k:Nat)=>[(6,.d (.i (k:Int))),(3,.own 39)]) (fun k=>[(39,some (.arr 36 1 (ordRows (X++(R.take k).map (i::·)))))]) (fun k=>k≤R.length) (fun k=>R.length - k) 0 ?_ (Nat.zero_le _) ?_
      ·simp only [go_sem,List.take_zero,List.map_nil,List.append_nil]
       refine weA ?_ ?_ <;> simp
      ·intro k hk
       simp only [go_sem]
       repeat (first|refine nx ?_|(refine z3 fun K hK=>?_;simp only [go_sem,hrl];apply hK;clear hK K))
       refine z5 rfl (fun hb=>?_) (fun hb=>?_)
       ·have hkl:k<R.length:=by simpa using hb
        have hwk:IntKind.i64.wrap ((k:Int) + 1)=((k + 1:Nat):Int):=by rw [z9 (by omega)];simp
        obtain⟨r,hr⟩:∃ r,R[k]?=some r:=⟨_,List.getElem?_eq_getElem hkl⟩
        have hrm:r.length≤5:=by
         have h1:=(z195 (s - 2 ^ i) u1).2
         rw [z222 5 f (s - 2 ^ i) u1 (z19 _ u1) (by omega),← hR] at h1
         exact of_decide_eq_true (List.all_eq_true.1 h1 r (List.mem_of_getElem? hr))
        have g1:=z478 hr
        have nkk:¬ ((k:Int)<0):=by omega
        have et:X++(R.take (k + 1)).map (i::·)=(X++(R.take k).map (i::·))++[i::r]:=by rw [List.take_add_one,hr];simp
        have hlr:(intRows (natsI r)).length=r.length:=by rw [z12,z67]
        have hlo:(ordRows (X++(R.take k).map (i::·))).length≤549755813887:=by
         rw [z223]
         simp
         omega
        have hl1:1 + r.length≤549755813888:=by omega
        have hhd:headIs 1 (intRows (natsI r))=true:=by cases r <;> rfl
        repeat (first|refine nx ?_|(refine z3 fun K hK=>?_;simp only [go_sem,g1,nkk,hkl,hrl,hlr,hlo,hl1,hhd,hwk,List.length_cons,List.length_nil];apply hK;clear hK K))
        refine⟨rfl,k + 1,?_,hkl,by omega⟩
        rw [et,z719,z481,z577]
        try simp only [go_sem]
        refine weA ?_ ?_ <;> simp
       ·have hke:k=R.length:=by (have:¬ k<R.length:=by simpa using hb);omega
        subst hke
        rw [List.take_length]
        repeat (first|refine nx ?_|(refine z3 fun K hK=>?_;simp only [go_sem,hw];apply hK;clear hK K))
        refine⟨rfl,i + 1,?_,hlt,by omega⟩
        rw [e]
        try simp only [go_sem]
        refine weA ?_ ?_ <;> simp
    ·have he:i=8:=by have:=of_decide_eq_false hb;omega
     subst he
     repeat (first|refine nx ?_|(refine z3 fun K hK=>?_;simp only [go_sem];apply hK;clear hK K))
     simp only [go_sem]
end Go.Ab
namespace Go.Ab
open Go.RowKit Go.Proofs
set_option maxHeartbeats 8000000
set_option maxRecDepth 20000
attribute [local irreducible] WalkL Walk
theorem z1400 (m:Nat) (G:Mat) (S:List SpotT) (hS:SpotsOk m S) (p:Nat) (hp:p<m) (s:Nat) (hs:s<32) (hi:∀ i ∈ elems s,i<S.length) :
  Fn Tryd.prog 97 [.sl (slRows (matM m G)),.i (p:Int),.sl (S.map SpotT.row),.i (s:Int)] (.tup [.sl (intRows (natsI (bestD G S p s).1)),.i (bestD G S p s).2]):=by
 have hlen:=z19 s hs
 have hmem:=z208 5 s hs hlen
 have h120:=z1370 5 s hs hlen
 have hsm:=(z195 s hs).1
 have h33:∀ l ∈ ordersL 5 s,Fn Tryd.prog 33 [.sl (slRows (matM m G)),.i (p:Int),.sl (S.map SpotT.row),.sl (intRows (natsI l))] (.tup [.i (costF G S p 0 0 l).1,.i (costF G S p 0 0 l).2]):=fun l hl=>by
  have hp2:=(hmem l).1 hl
  exact z1414 m G S hS p hp l (fun i h=>hi i (hp2.mem_iff.1 h)) (by rw [hp2.length_eq];omega)
 rw [bestD]
 obtain⟨c,hc⟩:∃ c,c=fun l=>(costF G S p 0 0 l).1:=⟨_,rfl⟩
 rw [← hc]
 obtain⟨L,hL⟩:∃ L,L=ordersL 5 s:=⟨_,rfl⟩
 rw [← hL] at h120 hsm h33 ⊢
 have hrl:=z223 L
 refine z10 45 Tryd.call97 Tryd.func97 rfl (by decide) fun J=>?_
 simp only [go_sem,St.start,Tryd.ntmps97,Tryd.results97]
 repeat (first|refine nx ?_|(refine z3 fun K hK=>?_;simp only [go_sem];(repeat (first|(refine⟨_,.lent (hf:=h120) (hd:=rfl) (hr:=rfl),?_⟩;simp only [go_sem])|(refine⟨_,.given (hf:=h120) (hd:=rfl) (ha:=rfl),?_⟩;simp only [go_sem])));apply hK;clear hK K))
 refine z13 (fun (a:Nat × List Nat × Int)=>[(13,.d (.i (a.1:Int))),(10,.d (.sl (intRows (natsI a.2.1)))),(11,.d (.i a.2.2)),(14,.undef),(15,.undef)]) (fun _=>[])
  (fun a=>a.1≤L.length∧a.2=(L.take a.1).foldl (bestStep c) ([],neverW)) (fun a=>L.length - a.1) (0,[],neverW) ?_ ⟨Nat.zero_le _,rfl⟩ ?_
 ·simp only [go_sem,natsI,intRows,List.map_nil,neverW]
  refine weA ?_ ?_ <;> simp
 ·rintro⟨k,o,v⟩ ⟨hk,ho⟩
  dsimp only at hk ho
  simp only [go_sem]
  repeat (first|refine nx ?_|(refine z3 fun K hK=>?_;simp only [go_sem,hrl];apply hK;clear hK K))
  refine z5 rfl (fun hb=>?_) (fun hb=>?_)
  ·have hlt:k<L.length:=by simpa using hb
   have hw:IntKind.i64.wrap ((k:Int) + 1)=((k + 1:Nat):Int):=by rw [z9 (by omega)];simp
   obtain⟨l,hl⟩:∃ l,L[k]?=some l:=⟨_,List.getElem?_eq_getElem hlt⟩
   have h33l:=h33 l (List.mem_of_getElem? hl)
   have g1:=z478 hl
   have nk:¬ ((k:Int)<0):=by omega
   have hnx:(L.take (k + 1)).foldl (bestStep c) ([],neverW)=bestStep c (o,v) l:=by rw [z24 _ _ _ _ _ hl,← ho]
   have hcl:c l=(costF G S p 0 0 l).1:=by rw [hc]
   rw [bestStep] at hnx
   dsimp only at hnx
   rw [hcl] at hnx
   by_cases hlt2:(costF G S p 0 0 l).1<v
   ·rw [if_pos hlt2] at hnx
    have hd:decide ((costF G S p 0 0 l).1<v)=true:=decide_eq_true hlt2
    repeat (first|refine nx ?_|(refine z3 fun K hK=>?_;simp only [go_sem,g1,nk,hlt,hrl,hd];(repeat (first|(refine⟨_,.lent (hf:=h33l) (hd:=rfl) (hr:=rfl),?_⟩;simp only [go_sem,g1,nk,hlt,hrl,hd])|(refine⟨_,.given (hf:=h33l) (hd:=rfl) (ha:=rfl),?_⟩;simp only [go_sem,g1,nk,hlt,hrl,hd])));apply hK;clear hK K))
    refine z7 rfl ?_
    repeat (first|refine nx ?_|(refine z3 fun K hK=>?_;simp only [go_sem,g1,nk,hlt,hrl,hw];apply hK;clear hK K))
    refine⟨rfl,(k + 1,_,_),?_,⟨hlt,hnx.symm⟩,by dsimp only;omega⟩
    try simp only [go_sem]
    refine weA ?_ ?_ <;> simp
   ·rw [if_neg hlt2] at hnx
    have hd:decide ((costF G S p 0 0 l).1<v)=false:=decide_eq_false hlt2
    repeat (first|refine nx ?_|(refine z3 fun K hK=>?_;simp only [go_sem,g1,nk,hlt,hrl,hd];(repeat (first|(refine⟨_,.lent (hf:=h33l) (hd:=rfl) (hr:=rfl),?_⟩;simp only [go_sem,g1,nk,hlt,hrl,hd])|(refine⟨_,.given (hf:=h33l) (hd:=rfl) (ha:=rfl),?_⟩;simp only [go_sem,g1,nk,hlt,hrl,hd])));apply hK;clear hK K))
    refine z4 rfl ?_
    repeat (first|refine nx ?_|(refine z3 fun K hK=>?_;simp only [go_sem,hw];apply hK;clear hK K))
    refine⟨rfl,(k + 1,_,_),?_,⟨hlt,hnx.symm⟩,by dsimp only;omega⟩
    try simp only [go_sem]
    refine weA ?_ ?_ <;> simp
  ·have he:k=L.length:=by (have:¬ k<L.length:=by simpa using hb);omega
   subst he
   rw [List.take_length] at ho
   rw [← ho]
   repeat (first|refine nx ?_|(refine z3 fun K hK=>?_;simp only [go_sem];apply hK;clear hK K))
   simp only [go_sem]
theorem z1309:((List.range 32).all fun s=>(List.range 32).all fun o=>(bAndNot .i64 (o:Int) (s:Int) != 0) == !(o &&& s == o))=true:=by decide +kernel
theorem z944 {s o:Nat} (hs:s<32) (ho:o<32):(bAndNot .i64 (o:Int) (s:Int) != 0)=!decide (o &&& s=o):=by
 have:=List.all_eq_true.1 (List.all_eq_true.1 z1309 s (List.mem_range.2 hs)) o (List.mem_range.2 ho)
 rw [beq_iff_eq] at this
 rw [this]
 rfl
theorem z1424 (m:Nat) (G:Mat) (S:List SpotT) (hS:SpotsOk m S) (bs:List Nat) (hbs:∀ b ∈ bs,b<m) (hb3:bs.length≤3):∀ (f t:Nat),t + f=bs.length→t<bs.length→∀ s:Nat,s<32→(∀ i ∈ elems s,i<S.length) →
  Fn Tryd.prog 74 [.sl (slRows (matM m G)),.sl (intRows (natsI bs)),.sl (S.map SpotT.row),.i (t:Int),.i (s:Int)] (.i (shareD G S (bs.drop t) s)):=by
 intro f
 induction f with
 | zero=>intro t h1 h2;omega
 | succ f ih =>
  intro t h1 h2 s hs hi
  obtain⟨b,hb⟩:∃ b,bs[t]?=some b:=⟨_,List.getElem?_eq_getElem h2⟩
  have hbm:=hbs b (List.mem_of_getElem? hb)
  have g1:=z85 (z313 hb)
  have hrl:(intRows (natsI bs)).length=bs.length:=by rw [z12,z67]
  have nt:¬ ((t:Int)<0):=by omega
  have hwl:IntKind.i64.wrap ((bs.length:Int) - 1)=((bs.length - 1:Nat):Int):=by rw [z9 (by omega)];omega
  rw [z44 hb]
  by_cases hlast:t + 1=bs.length
  ·have hd0:bs.drop (t + 1)=[]:=List.drop_eq_nil_of_le (by omega)
   have he:((t:Int) == ((bs.length - 1:Nat):Int))=true:=by simp;omega
   have h97:=z1400 m G S hS b hbm s hs hi
   rw [hd0,shareD]
   refine z10 68 Tryd.call74 Tryd.func74 rfl (by decide) fun J=>?_
   simp only [go_sem,St.start,Tryd.ntmps74,Tryd.results74]
   repeat (first|refine nx ?_|(refine z3 fun K hK=>?_;simp only [go_sem,hrl,hwl,he];apply hK;clear hK K))
   refine z7 rfl ?_
   repeat (first|refine nx ?_|(refine z3 fun K hK=>?_;simp only [go_sem,g1,nt,h2,hrl];(repeat (first|(refine⟨_,.lent (hf:=h97) (hd:=rfl) (hr:=rfl),?_⟩;simp only [go_sem,g1,nt,h2,hrl])|(refine⟨_,.given (hf:=h97) (hd:=rfl) (ha:=rfl),?_⟩;simp only [go_sem,g1,nt,h2,hrl])));apply hK;clear hK K))
   simp only [go_sem]
  ·have he:((t:Int) == ((bs.length - 1:Nat):Int))=false:=by simp;omega
   obtain⟨c,hc⟩:∃ c,bs[t + 1]?=some c:=⟨_,List.getElem?_eq_getElem (by omega)⟩
   have hdr:bs.drop (t + 1)=c::bs.drop (t + 1 + 1):=z44 hc
   have hwt:IntKind.i64.wrap ((t:Int) + 1)=((t + 1:Nat):Int):=by rw [z9 (by omega)];simp
   have hih:=ih (t + 1) (by omega) (by omega)
   rw [hdr,shareD,← hdr]
   obtain⟨st,hst⟩:∃ st,st=fun (a:Int) (o:Nat)=>if o &&& s=o then min a (wr ((bestD G S b o).2 + shareD G S (bs.drop (t + 1)) (s - o))) else a:=⟨_,rfl⟩
   rw [← hst]
   obtain⟨RES,hRES⟩:∃ R,R=(List.range (s + 1)).foldl st neverW:=⟨_,rfl⟩
   rw [← hRES]
   refine z10 68 Tryd.call74 Tryd.func74 rfl (by decide) fun J=>?_
   simp only [go_sem,St.start,Tryd.ntmps74,Tryd.results74]
   repeat (first|refine nx ?_|(refine z3 fun K hK=>?_;simp only [go_sem,hrl,hwl,he];apply hK;clear hK K))
   refine z4 rfl ?_
   repeat (first|refine nx ?_|(refine z3 fun K hK=>?_;simp only [go_sem];apply hK;clear hK K))
   refine z13 (fun (a:Nat × Int)=>[(14,.d (.i (a.1:Int))),(13,.d (.i a.2)),(15,.undef),(16,.undef)]) (fun _=>[])
    (fun a=>a.1≤s + 1∧a.2=(List.range a.1).foldl st neverW) (fun a=>s + 1 - a.1) (0,neverW) ?_ ⟨Nat.zero_le _,rfl⟩ ?_
   ·simp only [go_sem,neverW]
    refine weA ?_ ?_ <;> simp
   ·rintro⟨o,v⟩ ⟨ho,hv⟩
    dsimp only at ho hv
    simp only [go_sem]
    repeat (first|refine nx ?_|(refine z3 fun K hK=>?_;simp only [go_sem];apply hK;clear hK K))
    refine z5 rfl (fun hb=>?_) (fun hb=>?_)
    ·have hle:o≤s:=by have:=of_decide_eq_true hb;omega
     have hw:IntKind.i64.wrap ((o:Int) + 1)=((o + 1:Nat):Int):=by rw [z9 (by omega)];simp
     have hnx:(List.range (o + 1)).foldl st neverW=st v o:=by rw [z60,← hv]
     have han:=z944 hs (show o<32 by omega)
     by_cases hsub:o &&& s=o
     ·obtain⟨p1,p2,p3,p4⟩:=z41 hs hsub
      have h97o:=z1400 m G S hS b hbm o p2 (fun i h=>hi i (p4.mem_iff.2 (by simp [h])))
      have hiho:=hih (s - o) p3 (fun i h=>hi i (p4.mem_iff.2 (by simp [h])))
      have hws:IntKind.i64.wrap ((s:Int) - (o:Int))=((s - o:Nat):Int):=by rw [z9 (by omega)];omega
      rw [decide_eq_true hsub,Bool.not_true] at han
      rw [hst] at hnx
      dsimp only at hnx
      rw [if_pos hsub,wr,← hst] at hnx
      repeat (first|refine nx ?_|(refine z3 fun K hK=>?_;simp only [go_sem,han];apply hK;clear hK K))
      refine z4 rfl ?_
      repeat (first|refine nx ?_|(refine z3 fun K hK=>?_;simp only [go_sem,g1,nt,h2,hrl,hwt,hws,hw];(repeat (first|(refine⟨_,.lent (hf:=h97o) (hd:=rfl) (hr:=rfl),?_⟩;simp only [go_sem,g1,nt,h2,hrl,hwt,hws,hw])|(refine⟨_,.lent (hf:=hiho) (hd:=rfl) (hr:=rfl),?_⟩;simp only [go_sem,g1,nt,h2,hrl,hwt,hws,hw])|(refine⟨_,.given (hf:=h97o) (hd:=rfl) (ha:=rfl),?_⟩;simp only [go_sem,g1,nt,h2,hrl,hwt,hws,hw])|(refine⟨_,.given (hf:=hiho) (hd:=rfl) (ha:=rfl),?_⟩;simp only [go_sem,g1,nt,h2,hrl,hwt,hws,hw])));apply hK;clear hK K))
      refine⟨rfl,(o + 1,_),?_,⟨by omega,hnx.symm⟩,by dsimp only;omega⟩
      try simp only [go_sem]
      refine weA ?_ ?_ <;> simp
     ·rw [decide_eq_false hsub,Bool.not_false] at han
      rw [hst] at hnx
      dsimp only at hnx
      rw [if_neg hsub,← hst] at hnx
      repeat (first|refine nx ?_|(refine z3 fun K hK=>?_;simp only [go_sem,han];apply hK;clear hK K))
      refine z7 rfl ?_
      repeat (first|refine nx ?_|(refine z3 fun K hK=>?_;simp only [go_sem,hw];apply hK;clear hK K))
      refine⟨rfl,(o + 1,_),?_,⟨by omega,hnx.symm⟩,by dsimp only;omega⟩
      try simp only [go_sem]
      refine weA ?_ ?_ <;> simp
    ·have he:o=s + 1:=by have:=of_decide_eq_false hb;omega
     subst he
     rw [← hRES] at hv
     rw [← hv]
     repeat (first|refine nx ?_|(refine z3 fun K hK=>?_;simp only [go_sem];apply hK;clear hK K))
     simp only [go_sem]
end Go.Ab
namespace Go.Ab
open Go.RowKit Go.Proofs
set_option maxHeartbeats 8000000
set_option maxRecDepth 20000
attribute [local irreducible] WalkL Walk
structure SearchT where
 party:Party
 bases:List Int
 spots:List SpotT
 minutes:Int
def SearchT.row (x:SearchT):List DV:=[.i x.party.grade,.i x.party.load,.i x.party.pace.lo,.i x.party.pace.hi,.sl (intRows x.bases),.sl (x.spots.map SpotT.row),.i x.minutes]
def farSe (x:SearchT):Bool:=(decide ((x.spots.length:Int) > 5) && decide ((x.spots.length:Int)≤8)) || (decide ((x.spots.length:Int) > 30) || decide ((x.bases.length:Int) > 20))
theorem z1436 (x:SearchT):Fn Tryd.prog 37 [.agg x.row] (.bool (farSe x)):=by
 have h1:=z12 x.bases
 have h2:(x.spots.map SpotT.row).length=x.spots.length:=by simp
 refine z10 25 Tryd.call37 Tryd.func37 rfl (by decide) fun J=>?_
 simp only [go_sem,St.start,Tryd.ntmps37,Tryd.results37,SearchT.row]
 rw [farSe]
 cases q1:decide ((x.spots.length:Int) > 5) <;> cases q2:decide ((x.spots.length:Int)≤8) <;> cases q3:decide ((x.spots.length:Int) > 30) <;> cases q4:decide ((x.bases.length:Int) > 20)
 all_goals
  repeat (first|refine nx ?_|(refine z3 fun K hK=>?_;simp only [go_sem,q1,q2,q3,q4,h1,h2,List.length_map];apply hK;clear hK K))
 all_goals
  simp only [go_sem,q1,q2,q3,q4,Bool.true_and,Bool.false_and,Bool.and_true,Bool.and_false,Bool.true_or,Bool.false_or,Bool.or_true,Bool.or_false]
theorem z1194 (n:Net) (bases:List Int) (S:List SpotT):badTeams n bases S=((!withinB S.length 1 8 || !withinB bases.length 1 3) || (S.any (badSpot n) || bases.any (badBase n))):=by
 rw [badTeams]
 cases !withinB (S.length:Int) 1 8 <;> cases S.any (badSpot n) <;> cases !withinB (bases.length:Int) 1 3 <;> cases bases.any (badBase n) <;> rfl
theorem z1429 (n:Net) (p:Party) (bases:List Int) (S:List SpotT) (hs:n.Small) (hb:bases.length<2 ^ 30) (hl:S.length<2 ^ 30) :
  Fn Tryd.prog 52 [.agg n.cells,.agg p.cells,.sl (intRows bases),.sl (S.map SpotT.row)] (.i (readyE n p bases S)):=by
 have h23:=z1440 n p hs
 have hrl:=z12 bases
 have hsl:(S.map SpotT.row).length=S.length:=by simp
 rw [readyE]
 by_cases hc:checkPartyF n p=0
 ·obtain⟨hg,hp⟩:=z217.1 hc
  have hpl:=hg.places
  have h24:=fun v=>z1363 n v (by omega)
  rw [if_neg (fun h=>h hc),z1194]
  rw [hc] at h23
  rw [Net.cells] at *
  rw [Party.cells] at *
  refine z10 73 Tryd.call52 Tryd.func52 rfl (by decide) fun J=>?_
  simp only [go_sem,St.start,Tryd.ntmps52,Tryd.results52,Net.cells,Party.cells]
  repeat (first|refine nx ?_|(refine z3 fun K hK=>?_;simp only [go_sem];(repeat (first|(refine⟨_,.lent (hf:=h23) (hd:=rfl) (hr:=rfl),?_⟩;simp only [go_sem])|(refine⟨_,.given (hf:=h23) (hd:=rfl) (ha:=rfl),?_⟩;simp only [go_sem])));apply hK;clear hK K))
  refine z4 (by rfl) ?_
  repeat (first|refine z34 ?_|refine z61 ?_)
  refine z29 [(27,.d (.bool (!withinB S.length 1 8 || !withinB bases.length 1 3)))] [] ?_ ?_
  ·refine z3 fun K hK=>?_
   simp only [go_sem,hrl,hsl,List.length_map]
   refine⟨_,.lent (hf:=z1349 S.length 1 8) (hd:=rfl) (hr:=rfl),?_⟩
   simp only [go_sem,hrl,hsl,List.length_map]
   by_cases ho0:(!withinB S.length 1 8)=true
   ·simp only [go_sem,hrl,hsl,List.length_map,ho0]
    apply hK
    clear hK K
    refine z11 ?_
    refine z6 ?_
    refine⟨rfl,?_⟩
    rw [show (!withinB S.length 1 8 || !withinB bases.length 1 3)=(true) from by simp [ho0]]
    simp only [go_sem]
    refine weA ?_ ?_ <;> simp
   ·simp only [go_sem,hrl,hsl,List.length_map,ho0]
    refine⟨_,.lent (hf:=z1349 bases.length 1 3) (hd:=rfl) (hr:=rfl),?_⟩
    simp only [go_sem,hrl,hsl,List.length_map,ho0]
    apply hK
    clear hK K
    refine z11 ?_
    refine z6 ?_
    refine⟨rfl,?_⟩
    rw [show (!withinB S.length 1 8 || !withinB bases.length 1 3)=(!withinB bases.length 1 3) from by simp [ho0]]
    simp only [go_sem]
    refine weA ?_ ?_ <;> simp
  simp only [go_sem]
  by_cases hbl:(!withinB S.length 1 8 || !withinB bases.length 1 3)=true
  ·rw [hbl,Bool.true_or,if_pos rfl]
   refine z5 (b:=true) (by rw [← hbl];rfl) (fun _=>?_) (fun hc=>by cases hc)
   repeat (first|refine nx ?_|(refine z3 fun K hK=>?_;simp only [go_sem];apply hK;clear hK K))
   simp only [go_sem]
  ·have hbl:(!withinB S.length 1 8 || !withinB bases.length 1 3)=false:=by simpa using hbl
   rw [hbl,Bool.false_or]
   refine z5 (b:=false) (by rw [← hbl];rfl) (fun hc=>by cases hc) (fun _=>?_)
   repeat (first|refine nx ?_|(refine z3 fun K hK=>?_;simp only [go_sem];apply hK;clear hK K))
   refine z13 (fun (i:Nat)=>[(10,.d (.i i))]) (fun _=>[]) (fun i=>i≤S.length∧(S.take i).any (badSpot n)=false) (fun i=>S.length - i) 0 ?_ ⟨Nat.zero_le _,rfl⟩ ?_
   ·simp only [go_sem]
    refine weA ?_ ?_ <;> simp
   ·intro i ⟨hi,hall⟩
    simp only [go_sem]
    repeat (first|refine nx ?_|(refine z3 fun K hK=>?_;simp only [go_sem,hsl];apply hK;clear hK K))
    refine z5 rfl (fun hb=>?_) (fun hb=>?_)
    ·have hlt:i<S.length:=by simpa using hb
     have hw:IntKind.i64.wrap ((i:Int) + 1)=((i + 1:Nat):Int):=by rw [z9 (by omega)];simp
     obtain⟨s,hsi⟩:∃ s,S[i]?=some s:=⟨_,List.getElem?_eq_getElem hlt⟩
     have g1:(S.map SpotT.row)[i]?=some [.i s.pl,.i s.wt,.i s.se]:=by rw [List.getElem?_map,hsi];rfl
     have nk:¬ ((i:Int)<0):=by omega
     repeat refine nx ?_
     refine z29 [(59,.d (.bool (badSpot n s)))] [] ?_ ?_
     ·refine z8 (by kernel_rfl) (by kernel_rfl) fun K hK=>?_
      simp only [go_sem,g1,nk,hlt,hsl,List.length_map]
      refine⟨_,.fn (hf:=h24 s.pl) (hd:=rfl) (hr:=.inl rfl),?_⟩
      simp only [go_sem,g1,nk,hlt,hsl,List.length_map]
      by_cases ho0:(!withinB s.pl 0 (n.places - 1))=true
      ·simp only [go_sem,g1,nk,hlt,hsl,List.length_map,ho0]
       refine⟨by kernel_rfl,hK _ ?_⟩
       clear hK K
       refine z11 ?_
       refine z6 ?_
       refine⟨rfl,?_⟩
       rw [show (badSpot n s)=(true) from by simp [badSpot,ho0]]
       simp only [go_sem]
       refine weA ?_ ?_ <;> simp
      ·simp only [go_sem,g1,nk,hlt,hsl,List.length_map,ho0]
       refine⟨_,.fn (hf:=z1349 s.wt 0 100) (hd:=rfl) (hr:=.inl rfl),?_⟩
       simp only [go_sem,g1,nk,hlt,hsl,List.length_map,ho0]
       by_cases ho1:(!withinB s.wt 0 100)=true
       ·simp only [go_sem,g1,nk,hlt,hsl,List.length_map,ho0,ho1]
        refine⟨by kernel_rfl,hK _ ?_⟩
        clear hK K
        refine z11 ?_
        refine z6 ?_
        refine⟨rfl,?_⟩
        rw [show (badSpot n s)=(true) from by simp [badSpot,ho0,ho1]]
        simp only [go_sem]
        refine weA ?_ ?_ <;> simp
       ·simp only [go_sem,g1,nk,hlt,hsl,List.length_map,ho0,ho1]
        refine⟨_,.fn (hf:=z1349 s.se 0 600) (hd:=rfl) (hr:=.inl rfl),?_⟩
        simp only [go_sem,g1,nk,hlt,hsl,List.length_map,ho0,ho1]
        refine⟨by kernel_rfl,hK _ ?_⟩
        clear hK K
        refine z11 ?_
        refine z6 ?_
        refine⟨rfl,?_⟩
        rw [show (badSpot n s)=(!withinB s.se 0 600) from by simp [badSpot,ho0,ho1]]
        simp only [go_sem]
        refine weA ?_ ?_ <;> simp
     simp only [go_sem]
     by_cases hbs:badSpot n s=true
     ·rw [z128 (q:=badSpot n) hsi hbs,Bool.true_or,if_pos rfl]
      refine z5 (b:=true) (by rw [← hbs];rfl) (fun _=>?_) (fun hc=>by cases hc)
      repeat (first|refine nx ?_|(refine z3 fun K hK=>?_;simp only [go_sem];apply hK;clear hK K))
      simp only [go_sem]
     ·have hbs:badSpot n s=false:=by simpa using hbs
      refine z5 (b:=false) (by rw [← hbs];rfl) (fun hc=>by cases hc) (fun _=>?_)
      repeat (first|refine nx ?_|(refine z3 fun K hK=>?_;simp only [go_sem,hw];apply hK;clear hK K))
      refine⟨rfl,i + 1,?_,⟨hlt,z94 hsi hall hbs⟩,by omega⟩
      try simp only [go_sem]
      refine weA ?_ ?_ <;> simp
    ·have he:i=S.length:=by (have:¬ i<S.length:=by simpa using hb);omega
     subst he
     rw [List.take_length] at hall
     rw [hall,Bool.false_or]
     repeat (first|refine nx ?_|(refine z3 fun K hK=>?_;simp only [go_sem];apply hK;clear hK K))
     refine z13 (fun (i:Nat)=>[(11,.d (.i i))]) (fun _=>[]) (fun i=>i≤bases.length∧(bases.take i).any (badBase n)=false) (fun i=>bases.length - i) 0 ?_ ⟨Nat.zero_le _,rfl⟩ ?_
     ·simp only [go_sem]
      refine weA ?_ ?_ <;> simp
     ·intro i ⟨hi,hall2⟩
      simp only [go_sem]
      repeat (first|refine nx ?_|(refine z3 fun K hK=>?_;simp only [go_sem,hrl];apply hK;clear hK K))
      refine z5 rfl (fun hb=>?_) (fun hb=>?_)
      ·have hlt:i<bases.length:=by simpa using hb
       have hw:IntKind.i64.wrap ((i:Int) + 1)=((i + 1:Nat):Int):=by rw [z9 (by omega)];simp
       obtain⟨v,hvi⟩:∃ s,bases[i]?=some s:=⟨_,List.getElem?_eq_getElem hlt⟩
       have g1:=z85 hvi
       have nk:¬ ((i:Int)<0):=by omega
       have h24v:=h24 v
       cases hbs:badBase n v
       ·have hbs2:withinB v 0 (n.places - 1)=true:=by simpa [badBase] using hbs
        rw [hbs2] at h24v
        repeat (first|refine nx ?_|(refine z3 fun K hK=>?_;simp only [go_sem];apply hK;clear hK K))
        refine z8 (by kernel_rfl) (by kernel_rfl) fun K hK=>?_
        simp only [go_sem,g1,nk,hlt,hrl]
        refine⟨_,.fn (hf:=h24v) (hd:=rfl) (hr:=.inl rfl),?_⟩
        simp only [go_sem]
        refine⟨by kernel_rfl,hK _ ?_⟩
        clear hK K
        refine z4 rfl ?_
        repeat (first|refine nx ?_|(refine z3 fun K hK=>?_;simp only [go_sem,hw];apply hK;clear hK K))
        refine⟨rfl,i + 1,?_,⟨hlt,z94 hvi hall2 hbs⟩,by omega⟩
        try simp only [go_sem]
        refine weA ?_ ?_ <;> simp
       ·have hbs2:withinB v 0 (n.places - 1)=false:=by simpa [badBase] using hbs
        rw [hbs2] at h24v
        rw [z128 (q:=badBase n) hvi hbs,if_pos rfl]
        repeat (first|refine nx ?_|(refine z3 fun K hK=>?_;simp only [go_sem];apply hK;clear hK K))
        refine z8 (by kernel_rfl) (by kernel_rfl) fun K hK=>?_
        simp only [go_sem,g1,nk,hlt,hrl]
        refine⟨_,.fn (hf:=h24v) (hd:=rfl) (hr:=.inl rfl),?_⟩
        simp only [go_sem]
        refine⟨by kernel_rfl,hK _ ?_⟩
        clear hK K
        refine z7 rfl ?_
        repeat (first|refine nx ?_|(refine z3 fun K hK=>?_;simp only [go_sem];apply hK;clear hK K))
        simp only [go_sem]
      ·have he:i=bases.length:=by (have:¬ i<bases.length:=by simpa using hb);omega
       subst he
       rw [List.take_length] at hall2
       rw [hall2,if_neg (by decide)]
       repeat (first|refine nx ?_|(refine z3 fun K hK=>?_;simp only [go_sem];apply hK;clear hK K))
       simp only [go_sem]
 ·rw [if_pos hc]
  have hne:(checkPartyF n p != 0)=true:=by simpa using hc
  rw [Net.cells] at *
  rw [Party.cells] at *
  refine z10 73 Tryd.call52 Tryd.func52 rfl (by decide) fun J=>?_
  simp only [go_sem,St.start,Tryd.ntmps52,Tryd.results52,Net.cells,Party.cells]
  repeat (first|refine nx ?_|(refine z3 fun K hK=>?_;simp only [go_sem,hne];(repeat (first|(refine⟨_,.lent (hf:=h23) (hd:=rfl) (hr:=rfl),?_⟩;simp only [go_sem,hne])|(refine⟨_,.given (hf:=h23) (hd:=rfl) (ha:=rfl),?_⟩;simp only [go_sem,hne])));apply hK;clear hK K))
  refine z7 rfl ?_
  repeat (first|refine nx ?_|(refine z3 fun K hK=>?_;simp only [go_sem];apply hK;clear hK K))
  simp only [go_sem]
def searchB (n:Net) (x:SearchT):Bool:=!farM n && (!farSe x && readyE n x.party x.bases x.spots == 0)
end Go.Ab
namespace Go.Ab
open Go.RowKit Go.Proofs
set_option maxHeartbeats 8000000
set_option maxRecDepth 20000
attribute [local irreducible] WalkL Walk
def boolR (l:List Bool):List (List DV):=l.map fun b=>[.bool b]
theorem z779 (l:List Bool):(boolR l).length=l.length:=by simp [boolR]
theorem z1260 {l:List Bool} {i:Nat} {b:Bool} (h:l[i]?=some b):(boolR l)[i]?=some [.bool b]:=by simp [boolR,h]
theorem z1178 (l:List Bool) (i:Nat) (b:Bool):(boolR l).set i [.bool b]=boolR (l.set i b):=by simp [boolR,List.map_set]
theorem z379 (k:Nat):List.replicate k [DV.bool false]=boolR (List.replicate k false):=by simp [boolR]
def mark1 (seen:List Bool) (s:Int):Option (List Bool):=if s<0∨s ≥ seen.length then none else if seen.getD s.toNat false then none else some (seen.set s.toNat true)
def markO:List Bool→List Int→Option (List Bool)
 | seen,[]=>some seen
 | seen,s::o=>match mark1 seen s with
  | none=>none
  | some t=>markO t o
def sharedR (G:Mat) (S:List SpotT):List Nat→List (List Int)→List Bool→Int→Int→Int × Bool
 | b::bs,o::os,seen,sum,many=>match markO seen o with
  | none=>(0,false)
  | some t=>if (costF G S b 0 0 (o.map Int.toNat)).2 ≥ neverW then (0,false) else sharedR G S bs os t (wr (sum + (costF G S b 0 0 (o.map Int.toNat)).1)) (many + o.length)
 | _,_,seen,sum,many=>(sum,many == (seen.length:Int))
def sharedF (G:Mat) (S:List SpotT) (bs:List Nat) (os:List (List Int)):Int × Bool:=if os.length≠bs.length then (0,false) else sharedR G S bs os (List.replicate S.length false) 0 0
theorem z1147 {seen t:List Bool} {s:Int} (h:mark1 seen s=some t):t.length=seen.length:=by
 rw [mark1] at h
 split at h
 ·cases h
 ·split at h
  ·cases h
  ·cases h;simp
theorem z1146:∀ {o:List Int} {seen t:List Bool},markO seen o=some t→∀ s ∈ o,0≤s∧s<seen.length
 | [],_,_,_,s,hs=>by simp at hs
 | x::o,seen,t,h,s,hs=>by
  rw [markO] at h
  split at h
  ·cases h
  ·rename_i u hu
   rcases List.mem_cons.1 hs with rfl | hs
   ·rw [mark1] at hu
    split at hu
    ·cases hu
    ·omega
   ·have:=z1146 h s hs
    rw [z1147 hu] at this
    exact this
theorem z574 {o:List Int} (h:∀ s ∈ o,0≤s):natsI (o.map Int.toNat)=o:=by
 rw [natsI,List.map_map]
 conv=>rhs;rw [← List.map_id o]
 apply List.map_congr_left
 intro s hs
 have:=h s hs
 simp
 omega
theorem z1438 (n:Net) (p:Party) (bases:List Int) (S:List SpotT) (mins:Int) (os:List (List Int)) (hg:n.Good) (hS:SpotsOk n.places.toNat S) (hb:∀ b ∈ bases,0≤b∧b<n.places) (hbl:bases.length<2 ^ 30) (hol:os.length<2 ^ 30) (hos:∀ o ∈ os,o.length<2 ^ 30) :
  Fn Tryd.prog 32 [.agg n.cells,.agg (SearchT.mk p bases S mins).row,.sl (slRows os)] (.tup [.i (sharedF (allR n p) S (bases.map Int.toNat) os).1,.bool (sharedF (allR n p) S (bases.map Int.toNat) os).2]):=by
 have hnb:natsI (bases.map Int.toNat)=bases:=z574 fun b h=>(hb b h).1
 have hpl:=hg.places
 obtain⟨bs,hbs⟩:∃ bs,bs=bases.map Int.toNat:=⟨_,rfl⟩
 rw [← hbs] at hnb ⊢
 have hbm:∀ b ∈ bs,b<n.places.toNat:=by
  intro b h
  rw [hbs] at h
  obtain⟨c,hc,rfl⟩:=List.mem_map.1 h
  have:=hb c hc
  omega
 have hbsl:bs.length=bases.length:=by rw [hbs,List.length_map]
 clear hb hbs
 subst hnb
 rw [z67] at hbsl hbl
 have h34:=(z1413 n p hg).deep
 have hlo:(slRows os).length=os.length:=by simp [slRows]
 have hlb:(intRows (natsI bs)).length=bs.length:=by rw [z12,z67]
 have hsl:(S.map SpotT.row).length=S.length:=by simp
 have h5:=hS.len
 have hm1:(S.length:Int)≤1099511627776:=by omega
 have hm2:¬ ((S.length:Int)<0):=by omega
 have hm0:0≤(S.length:Int):=by omega
 rw [sharedF]
 obtain⟨G,hG⟩:∃ G,G=allR n p:=⟨_,rfl⟩
 rw [← hG] at h34 ⊢
 rw [Net.cells] at *
 rw [SearchT.row]
 rw [Party.cells] at h34
 by_cases hne:os.length≠bs.length
 ·have hd:((os.length:Int) != (bs.length:Int))=true:=by simp;omega
  rw [if_pos hne]
  refine z10 98 Tryd.call32 Tryd.func32 rfl (by decide) fun J=>?_
  simp only [go_sem,St.start,Tryd.ntmps32,Tryd.results32,]
  repeat (first|refine nx ?_|(refine z3 fun K hK=>?_;simp only [go_sem,hlo,hlb,hd];apply hK;clear hK K))
  refine z7 (by rfl) ?_
  repeat (first|refine nx ?_|(refine z3 fun K hK=>?_;simp only [go_sem];apply hK;clear hK K))
  simp only [go_sem]
 ·have hle:os.length=bs.length:=by omega
  have hd:((os.length:Int) != (bs.length:Int))=false:=by simp;omega
  rw [if_neg hne]
  obtain⟨RES,hRES⟩:∃ R,R=sharedR G S bs os (List.replicate S.length false) 0 0:=⟨_,rfl⟩
  rw [← hRES]
  refine z10 98 Tryd.call32 Tryd.func32 rfl (by decide) fun J=>?_
  simp only [go_sem,St.start,Tryd.ntmps32,Tryd.results32,]
  repeat (first|refine nx ?_|(refine z3 fun K hK=>?_;simp only [go_sem,hlo,hlb,hd,hm1,hm2,hm0,hsl,true_and,Int.toNat_natCast,List.length_map];(repeat (first|(refine⟨_,.lent (hf:=h34) (hd:=rfl) (hr:=rfl),?_⟩;simp only [go_sem,hlo,hlb,hd,hm1,hm2,hm0,hsl,true_and,Int.toNat_natCast,List.length_map])|(refine⟨_,.given (hf:=h34) (hd:=rfl) (ha:=rfl),?_⟩;simp only [go_sem,hlo,hlb,hd,hm1,hm2,hm0,hsl,true_and,Int.toNat_natCast,List.length_map])));apply hK;clear hK K))
  refine z4 (by rfl) ?_
  repeat (first|refine nx ?_|(refine z3 fun K hK=>?_;simp only [go_sem,hlo,hlb,hd,hm1,hm2,hm0,hsl,true_and,Int.toNat_natCast,List.length_map,z379];(repeat (first|(refine⟨_,.lent (hf:=h34) (hd:=rfl) (hr:=rfl),?_⟩;simp only [go_sem,hlo,hlb,hd,hm1,hm2,hm0,hsl,true_and,Int.toNat_natCast,List.length_map,z379])|(refine⟨_,.given (hf:=h34) (hd:=rfl) (ha:=rfl),?_⟩;simp only [go_sem,hlo,hlb,hd,hm1,hm2,hm0,hsl,true_and,Int.toNat_natCast,List.length_map,z379])));apply hK;clear hK K))
  refine z13 (fun (a:Nat × List Bool × Int × Int)=>[(12,.d (.i (a.1:Int))),(10,.d (.i a.2.2.1)),(11,.d (.i a.2.2.2)),(9,.own 30),(13,.undef),(14,.undef),(15,.undef),(16,.undef)]) (fun a=>[(30,some (.arr 4 1 (boolR a.2.1)))])
   (fun a=>a.1≤os.length∧a.2.1.length=S.length∧(0≤a.2.2.2∧a.2.2.2≤1073741824 * a.1)∧RES=sharedR G S (bs.drop a.1) (os.drop a.1) a.2.1 a.2.2.1 a.2.2.2) (fun a=>os.length - a.1) (0,List.replicate S.length false,0,0) ?_ ⟨Nat.zero_le _,by simp,by simp,hRES⟩ ?_
  ·simp only [go_sem]
   refine weA ?_ ?_ <;> simp
  ·rintro⟨t,seen,sum,many⟩ ⟨ht,hsn,hmany,hR⟩
   dsimp only at ht hsn hmany hR
   simp only [go_sem]
   repeat (first|refine nx ?_|(refine z3 fun K hK=>?_;simp only [go_sem,hlo];apply hK;clear hK K))
   refine z5 rfl (fun hb=>?_) (fun hb=>?_)
   ·have hlt:t<os.length:=by simpa using hb
    have hw:IntKind.i64.wrap ((t:Int) + 1)=((t + 1:Nat):Int):=by rw [z9 (by omega)];simp
    obtain⟨o,ho⟩:∃ o,os[t]?=some o:=⟨_,List.getElem?_eq_getElem hlt⟩
    obtain⟨b,hb2⟩:∃ b,bs[t]?=some b:=⟨_,List.getElem?_eq_getElem (by omega)⟩
    have hom:=hos o (List.mem_of_getElem? ho)
    have hbb:=hbm b (List.mem_of_getElem? hb2)
    rw [z44 ho,z44 hb2,sharedR] at hR
    have g1:=z218 ho
    have g2:=z85 (z313 hb2)
    have nt:¬ ((t:Int)<0):=by omega
    have lb:t<bs.length:=by omega
    have hlr:(intRows o).length=o.length:=z12 o
    repeat (first|refine nx ?_|(refine z3 fun K hK=>?_;simp only [go_sem];apply hK;clear hK K))
    refine z13 (fun (a:Nat × List Bool)=>[(13,.d (.i (a.1:Int))),(11,.d (.i (many + a.1))),(9,.own 30),(14,.undef)]) (fun a=>[(30,some (.arr 4 1 (boolR a.2)))])
     (fun a=>a.1≤o.length∧a.2.length=S.length∧markO seen o=markO a.2 (o.drop a.1)) (fun a=>o.length - a.1) (0,seen) ?_ ⟨Nat.zero_le _,hsn,rfl⟩ ?_
    ·simp only [go_sem,Int.natCast_zero,Int.add_zero]
     refine weA ?_ ?_ <;> simp
    ·rintro⟨k,sn⟩ ⟨hk,hsk,hmk⟩
     dsimp only at hk hsk hmk
     have hbl2:=z779 sn
     rw [hsk] at hbl2
     simp only [go_sem]
     repeat (first|refine nx ?_|(refine z3 fun K hK=>?_;simp only [go_sem,g1,nt,hlt,hlo,hlr];apply hK;clear hK K))
     refine z5 rfl (fun hb3=>?_) (fun hb3=>?_)
     ·have hkl:k<o.length:=by simpa using hb3
      have hwk:IntKind.i64.wrap ((k:Int) + 1)=((k + 1:Nat):Int):=by rw [z9 (by omega)];simp
      obtain⟨s,hs⟩:∃ s,o[k]?=some s:=⟨_,List.getElem?_eq_getElem hkl⟩
      have g3:=z85 hs
      have nk:¬ ((k:Int)<0):=by omega
      rw [z44 hs,markO] at hmk
      by_cases c1:s<0
      ·have d1:decide (s<0)=true:=decide_eq_true c1
       rw [mark1,if_pos (.inl c1)] at hmk
       rw [hmk] at hR
       dsimp only at hR
       repeat (first|refine nx ?_|(refine z3 fun K hK=>?_;simp only [go_sem,g1,g3,nt,nk,hlt,hkl,hlo,hlr,d1,hbl2];apply hK;clear hK K))
       refine z7 (by rfl) ?_
       repeat (first|refine nx ?_|(refine z3 fun K hK=>?_;simp only [go_sem];apply hK;clear hK K))
       simp only [go_sem,hR]
      ·have d1:decide (s<0)=false:=decide_eq_false c1
       obtain⟨j,rfl⟩:∃ j:Nat,s=j:=⟨s.toNat,by omega⟩
       by_cases c2:(j:Int) ≥ (S.length:Int)
       ·have d2:decide ((j:Int) ≥ (S.length:Int))=true:=decide_eq_true c2
        rw [mark1,if_pos (.inr (by rw [hsk];exact c2))] at hmk
        rw [hmk] at hR
        dsimp only at hR
        repeat (first|refine nx ?_|(refine z3 fun K hK=>?_;simp only [go_sem,g1,g3,nt,nk,hlt,hkl,hlo,hlr,d1,d2,hbl2];apply hK;clear hK K))
        refine z7 (by rfl) ?_
        repeat (first|refine nx ?_|(refine z3 fun K hK=>?_;simp only [go_sem];apply hK;clear hK K))
        simp only [go_sem,hR]
       ·have d2:decide ((j:Int) ≥ (S.length:Int))=false:=decide_eq_false c2
        have hjl:j<S.length:=by omega
        have nj:¬ ((j:Int)<0):=by omega
        obtain⟨v,hv⟩:∃ v,sn[j]?=some v:=⟨_,List.getElem?_eq_getElem (by omega)⟩
        have hgd:sn.getD j false=v:=by rw [List.getD_eq_getElem?_getD,hv];rfl
        have g4:=z1260 hv
        rw [mark1,if_neg (by rw [hsk];omega),Int.toNat_natCast,hgd] at hmk
        cases v
        ·rw [if_neg (by decide)] at hmk
         dsimp only at hmk
         have hset:=z1178 sn j true
         have hwm:IntKind.i64.wrap (many + (k:Int) + 1)=many + ((k + 1:Nat):Int):=by rw [z9 (by omega)];omega
         repeat (first|refine nx ?_|(refine z3 fun K hK=>?_;simp only [go_sem,g1,g3,g4,nt,nk,nj,hlt,hkl,hjl,hlo,hlr,d1,d2,hbl2];apply hK;clear hK K))
         refine z4 (by rfl) ?_
         repeat (first|refine nx ?_|(refine z3 fun K hK=>?_;simp only [go_sem,g4,nj,hjl,hbl2,hset,hwm,hwk];apply hK;clear hK K))
         refine⟨rfl,(k + 1,sn.set j true),?_,⟨hkl,by rw [List.length_set];exact hsk,hmk⟩,by dsimp only;omega⟩
         try simp only [go_sem]
         refine weA ?_ ?_ <;> simp
        ·rw [if_pos rfl] at hmk
         rw [hmk] at hR
         dsimp only at hR
         repeat (first|refine nx ?_|(refine z3 fun K hK=>?_;simp only [go_sem,g1,g3,g4,nt,nk,nj,hlt,hkl,hjl,hlo,hlr,d1,d2,hbl2];apply hK;clear hK K))
         refine z7 (by rfl) ?_
         repeat (first|refine nx ?_|(refine z3 fun K hK=>?_;simp only [go_sem];apply hK;clear hK K))
         simp only [go_sem,hR]
     ·have hke:k=o.length:=by (have:¬ k<o.length:=by simpa using hb3);omega
      subst hke
      rw [List.drop_length,markO] at hmk
      rw [hmk] at hR
      dsimp only at hR
      have hin:=z1146 hmk
      rw [hsn] at hin
      obtain⟨l,hl⟩:∃ l,l=o.map Int.toNat:=⟨_,rfl⟩
      have hnl:natsI l=o:=by rw [hl];exact z574 fun s h=>(hin s h).1
      have hll:l.length=o.length:=by rw [hl,List.length_map]
      have hli:∀ i ∈ l,i<S.length:=by
       intro i h
       rw [hl] at h
       obtain⟨c,hc,rfl⟩:=List.mem_map.1 h
       have:=hin c hc
       omega
      have h33:=z1414 n.places.toNat G S hS b hbb l hli (by omega)
      rw [hnl] at h33
      rw [← hl] at hR
      repeat (first|refine nx ?_|(refine z3 fun K hK=>?_;simp only [go_sem];apply hK;clear hK K))
      refine z8 (by kernel_rfl) (by kernel_rfl) fun K hK=>?_
      simp only [go_sem,g1,g2,nt,lb,hlt,hlo,hlb]
      refine⟨_,.fn (hf:=h33) (hd:=rfl) (hr:=.inl rfl),?_⟩
      simp only [go_sem]
      refine⟨by kernel_rfl,hK _ ?_⟩
      clear hK K
      by_cases hnv:(costF G S b 0 0 l).2 ≥ neverW
      ·have hd3:decide ((costF G S b 0 0 l).2 ≥ 1073741824)=true:=by simpa [neverW] using hnv
       rw [if_pos hnv] at hR
       repeat (first|refine nx ?_|(refine z3 fun K hK=>?_;simp only [go_sem,hd3];apply hK;clear hK K))
       refine z7 (by rfl) ?_
       repeat (first|refine nx ?_|(refine z3 fun K hK=>?_;simp only [go_sem];apply hK;clear hK K))
       simp only [go_sem,hR]
      ·have hd3:decide ((costF G S b 0 0 l).2 ≥ 1073741824)=false:=by simpa [neverW] using hnv
       rw [if_neg hnv,wr] at hR
       repeat (first|refine nx ?_|(refine z3 fun K hK=>?_;simp only [go_sem,hd3];apply hK;clear hK K))
       refine z4 (by rfl) ?_
       repeat (first|refine nx ?_|(refine z3 fun K hK=>?_;simp only [go_sem,hw];apply hK;clear hK K))
       refine⟨rfl,(t + 1,sn,IntKind.i64.wrap (sum + (costF G S b 0 0 l).1),many + (o.length:Int)),?_,⟨hlt,hsk,by dsimp only;omega,hR⟩,by dsimp only;omega⟩
       try simp only [go_sem]
       refine weA ?_ ?_ <;> simp
   ·have he:t=os.length:=by (have:¬ t<os.length:=by simpa using hb);omega
    subst he
    have hd1:bs.drop os.length=[]:=List.drop_eq_nil_of_le (by omega)
    rw [List.drop_length,hd1,sharedR,hsn] at hR
    have hbl2:=z779 seen
    rw [hsn] at hbl2
    repeat (first|refine nx ?_|(refine z3 fun K hK=>?_;simp only [go_sem,hbl2];apply hK;clear hK K))
    simp only [go_sem,hR]
    all_goals simp
end Go.Ab
namespace Go.Ab
open Go.RowKit Go.Proofs
set_option maxHeartbeats 8000000
set_option maxRecDepth 20000
attribute [local irreducible] WalkL Walk
def earlierI:List Int→List Int→Bool
 | a::l,b::k=>if a=b then earlierI l k else decide (a<b)
 | _,_=>false
def teamsD (n:Net) (p:Party) (bases:List Int) (S:List SpotT):Int × Int :=
 if readyE n p bases S≠0 then (0,readyE n p bases S) else if shareD (allR n p) S (bases.map Int.toNat) (fullN S) ≥ neverW then (0,3) else (shareD (allR n p) S (bases.map Int.toNat) (fullN S),0)
theorem z1167:∀ k:Nat,k≤5→IntKind.i64.wrap (bShl .i64 1 (k:Int) - 1)=((2 ^ k - 1:Nat):Int)∧IntKind.u64.wrap (k:Int)=(k:Int):=by decide +kernel
theorem z1435 (n:Net) (p:Party) (bases:List Int) (S:List SpotT) (hs:n.Small) (hb:bases.length<2 ^ 30) (hl2:S.length<2 ^ 30) (hl:S.length≤5∨readyE n p bases S≠0) :
  Fn Tryd.prog 38 [.agg n.cells,.agg p.cells,.sl (intRows bases),.sl (S.map SpotT.row)] (.tup [.i (teamsD n p bases S).1,.i (teamsD n p bases S).2]):=by
 have h52:=z1429 n p bases S hs hb hl2
 have hsl:(S.map SpotT.row).length=S.length:=by simp
 rw [teamsD]
 by_cases he:readyE n p bases S=0
 ·obtain⟨hg,hp,hlen,hsp,hbl,hbs⟩:=z116 he
  have hl5:S.length≤5:=hl.resolve_right fun h=>h he
  have hpl:=hg.places
  have hS:SpotsOk n.places.toNat S:=⟨hl5,fun s hs=>by have:=(hsp s hs).1;omega⟩
  have hnb:natsI (bases.map Int.toNat)=bases:=z574 fun b h=>(hbs b h).1
  have h34:=(z1413 n p hg).deep
  have h74:=z1424 n.places.toNat (allR n p) S hS (bases.map Int.toNat) (fun b h=>by obtain⟨c,hc,rfl⟩:=List.mem_map.1 h;have:=hbs c hc;omega) (by rw [List.length_map];omega) (bases.map Int.toNat).length 0 (by simp) (by rw [List.length_map];omega) (fullN S) (z584 hl5) (z317 _ hl5)
  rw [List.drop_zero,hnb,fullN] at h74
  rw [if_neg (fun h=>h he),fullN]
  obtain⟨e1,e2⟩:=z1167 S.length hl5
  have n1:¬ ((S.length:Int)<0):=by omega
  obtain⟨C,hC⟩:∃ C,C=shareD (allR n p) S (bases.map Int.toNat) (2 ^ S.length - 1):=⟨_,rfl⟩
  rw [← hC] at h74 ⊢
  rw [he] at h52
  rw [Net.cells,Party.cells] at *
  change Fn Tryd.prog 74 [_,_,_,.i 0,_] _ at h74
  by_cases hn:C ≥ neverW
  ·have hd:decide (C ≥ 1073741824)=true:=by simpa [neverW] using hn
   rw [if_pos hn]
   refine z10 34 Tryd.call38 Tryd.func38 rfl (by decide) fun J=>?_
   simp only [go_sem,St.start,Tryd.ntmps38,Tryd.results38,]
   repeat (first|refine nx ?_|(refine z3 fun K hK=>?_;simp only [go_sem];(repeat (first|(refine⟨_,.lent (hf:=h52) (hd:=rfl) (hr:=rfl),?_⟩;simp only [go_sem])|(refine⟨_,.given (hf:=h52) (hd:=rfl) (ha:=rfl),?_⟩;simp only [go_sem])));apply hK;clear hK K))
   refine z4 (by rfl) ?_
   repeat (first|refine nx ?_|(refine z3 fun K hK=>?_;simp only [go_sem,hsl,List.length_map,e1,e2,n1,hd];(repeat (first|(refine⟨_,.lent (hf:=h34) (hd:=rfl) (hr:=rfl),?_⟩;simp only [go_sem,hsl,List.length_map,e1,e2,n1,hd])|(refine⟨_,.lent (hf:=h74) (hd:=rfl) (hr:=rfl),?_⟩;simp only [go_sem,hsl,List.length_map,e1,e2,n1,hd])|(refine⟨_,.given (hf:=h34) (hd:=rfl) (ha:=rfl),?_⟩;simp only [go_sem,hsl,List.length_map,e1,e2,n1,hd])|(refine⟨_,.given (hf:=h74) (hd:=rfl) (ha:=rfl),?_⟩;simp only [go_sem,hsl,List.length_map,e1,e2,n1,hd])));apply hK;clear hK K))
   refine z7 (by rfl) ?_
   repeat (first|refine nx ?_|(refine z3 fun K hK=>?_;simp only [go_sem];apply hK;clear hK K))
   simp only [go_sem]
  ·have hd:decide (C ≥ 1073741824)=false:=by simpa [neverW] using hn
   rw [if_neg hn]
   refine z10 34 Tryd.call38 Tryd.func38 rfl (by decide) fun J=>?_
   simp only [go_sem,St.start,Tryd.ntmps38,Tryd.results38,]
   repeat (first|refine nx ?_|(refine z3 fun K hK=>?_;simp only [go_sem];(repeat (first|(refine⟨_,.lent (hf:=h52) (hd:=rfl) (hr:=rfl),?_⟩;simp only [go_sem])|(refine⟨_,.given (hf:=h52) (hd:=rfl) (ha:=rfl),?_⟩;simp only [go_sem])));apply hK;clear hK K))
   refine z4 (by rfl) ?_
   repeat (first|refine nx ?_|(refine z3 fun K hK=>?_;simp only [go_sem,hsl,List.length_map,e1,e2,n1,hd];(repeat (first|(refine⟨_,.lent (hf:=h34) (hd:=rfl) (hr:=rfl),?_⟩;simp only [go_sem,hsl,List.length_map,e1,e2,n1,hd])|(refine⟨_,.lent (hf:=h74) (hd:=rfl) (hr:=rfl),?_⟩;simp only [go_sem,hsl,List.length_map,e1,e2,n1,hd])|(refine⟨_,.given (hf:=h34) (hd:=rfl) (ha:=rfl),?_⟩;simp only [go_sem,hsl,List.length_map,e1,e2,n1,hd])|(refine⟨_,.given (hf:=h74) (hd:=rfl) (ha:=rfl),?_⟩;simp only [go_sem,hsl,List.length_map,e1,e2,n1,hd])));apply hK;clear hK K))
   refine z4 (by rfl) ?_
   repeat (first|refine nx ?_|(refine z3 fun K hK=>?_;simp only [go_sem];apply hK;clear hK K))
   simp only [go_sem]
 ·have hne:(readyE n p bases S != 0)=true:=by simpa using he
  rw [if_pos he]
  rw [Net.cells,Party.cells] at *
  refine z10 34 Tryd.call38 Tryd.func38 rfl (by decide) fun J=>?_
  simp only [go_sem,St.start,Tryd.ntmps38,Tryd.results38,]
  repeat (first|refine nx ?_|(refine z3 fun K hK=>?_;simp only [go_sem,hne];(repeat (first|(refine⟨_,.lent (hf:=h52) (hd:=rfl) (hr:=rfl),?_⟩;simp only [go_sem,hne])|(refine⟨_,.given (hf:=h52) (hd:=rfl) (ha:=rfl),?_⟩;simp only [go_sem,hne])));apply hK;clear hK K))
  refine z7 (by rfl) ?_
  repeat (first|refine nx ?_|(refine z3 fun K hK=>?_;simp only [go_sem];apply hK;clear hK K))
  simp only [go_sem]
end Go.Ab
namespace Go.Ab
open Go.RowKit Go.Proofs
set_option maxHeartbeats 16000000
set_option maxRecDepth 20000
attribute [local irreducible] WalkL Walk
def uRows (l:List Nat):List (List DV):=l.map fun x=>[uD x]
theorem z1033:((List.range 32).all fun s=>(subs s)[0]? == some s && (List.range 32).all fun j=>match (subs s)[j]? with
  | none=>true
  | some o=>if o == 0 then j + 1 == (subs s).length else (subs s)[j + 1]? == some ((o - 1) &&& s))=true:=by decide +kernel
theorem z1108:((List.range 32).all fun s=>decide ((subs s).length≤32))=true:=by decide +kernel
theorem z1107 {s:Nat} (hs:s<32):(subs s)[0]?=some s∧∀ j o,(subs s)[j]?=some o→(o=0→j + 1=(subs s).length)∧(o≠0→(subs s)[j + 1]?=some ((o - 1) &&& s)):=by
 have h:=List.all_eq_true.1 z1033 s (List.mem_range.2 hs)
 have hl:=of_decide_eq_true (List.all_eq_true.1 z1108 s (List.mem_range.2 hs))
 rw [Bool.and_eq_true,beq_iff_eq] at h
 refine⟨h.1,fun j o hj=>?_⟩
 have hjl:=(List.getElem?_eq_some_iff.1 hj).1
 have h2:=List.all_eq_true.1 h.2 j (List.mem_range.2 (by omega))
 rw [hj] at h2
 dsimp only at h2
 by_cases h0:o=0
 ·rw [if_pos (by simp [h0]),beq_iff_eq] at h2
  exact⟨fun _=>h2,fun hh=>absurd h0 hh⟩
 ·rw [if_neg (by simp [h0]),beq_iff_eq] at h2
  exact⟨fun hh=>absurd hh h0,fun _=>h2⟩
theorem z1109:((List.range 32).all fun s=>(List.range 32).all fun o=>!(o &&& s == o) || (decide (bAndNot .u64 (s:Int) (o:Int)=((s - o:Nat):Int)) && (o == 0 || decide (bAnd .u64 (IntKind.u64.wrap ((o:Int) - 1)) (s:Int)=(((o - 1) &&& s:Nat):Int)))))=true:=by decide +kernel
theorem z1196 {s o:Nat} (hs:s<32) (ho:o &&& s=o):bAndNot .u64 (s:Int) (o:Int)=((s - o:Nat):Int)∧(o≠0→bAnd .u64 (IntKind.u64.wrap ((o:Int) - 1)) (s:Int)=(((o - 1) &&& s:Nat):Int)):=by
 have ho32:=(z41 hs ho).2.1
 have h:=List.all_eq_true.1 (List.all_eq_true.1 z1109 s (List.mem_range.2 hs)) o (List.mem_range.2 ho32)
 simp only [ho,beq_self_eq_true,Bool.not_true,Bool.false_or,Bool.and_eq_true,decide_eq_true_eq,Bool.or_eq_true,beq_iff_eq] at h
 exact⟨h.1,fun h0=>h.2.resolve_left h0⟩
def teamB (A B C:DV) (m:Nat) (F:Mat) (S:List SpotT):Blk:=.box [.d (.ptr (rescC A B C m F S) 0),.mp 2]
def selfB:Blk:=.box [.fn 73 [.box 0 0,.box 1 0]]
def memK8 (M:MemB):Blk:=.mp (some [.i64,.u64]) (memB M.1) M.2
theorem z367 {F:Mat} {S:List SpotT} {rec:Nat→MemB→(Int × List Nat) × MemB} {b s k:Nat} (hr:∀ x m,(rec x m).1.2.length + 1≤k):∀ (l:List Nat) (a:(Int × List Nat) × MemB),a.1.2.length≤k→(l.foldl (shareStep F S rec b s) a).1.2.length≤k
 | [],a,h=>h
 | o::l,a,h=>by
  rw [List.foldl_cons]
  refine z367 hr l _ ?_
  rw [shareStep]
  dsimp only
  split
  ·have:=hr (s - o) (bestM F S 5 b o a.2).2
   simpa using this
  ·exact h
theorem z342 {F:Mat} {S:List SpotT}:∀ (bs:List Nat) (s:Nat) (m:MemB),(shareM F S bs s m).1.2.length≤bs.length
 | [],_,_=>by simp [shareM]
 | [b],_,_=>by simp [shareM]
 | b::c::t,s,m=>by
  rw [shareM]
  refine z367 (fun x m=>?_) _ _ (by simp)
  have:=z342 (F:=F) (S:=S) (c::t) x m
  simp at this ⊢
  omega
theorem z1425 (A B C:DV) (m:Nat) (F:Mat) (S:List SpotT) (hS:SpotsOk m S):∀ (bs:List Nat),bs≠[]→(∀ b ∈ bs,b<m)→bs.length≤3→∀ (s:Nat) (M:MemB),s<32→(∀ i ∈ elems s,i<S.length) →
  FnG Tryd.prog 73 [teamB A B C m F S,selfB,memK8 M] [0,1] [.d (.sl (intRows (natsI bs))),.d (uD s),.box 0 0,.box 1 0] (.tup [.d (.i (shareM F S bs s M).1.1),.d (.sl (uRows (shareM F S bs s M).1.2))])
   [teamB A B C m F S,selfB,memK8 (shareM F S bs s M).2]:=by
 intro bs
 induction bs with
 | nil=>intro h;exact absurd rfl h
 | cons b bt ih =>
  intro _ hbm hb3 s M hs hi
  have hbb:=hbm b (by simp)
  have g0:(intRows (natsI (b::bt)))[0]?=some [.i (b:Int)]:=rfl
  have hlen:(intRows (natsI (b::bt))).length=bt.length + 1:=by rw [z12,z67];rfl
  have hhd:headIs 1 (intRows (natsI (b::bt)))=true:=rfl
  have hdr:(intRows (natsI (b::bt))).drop 1=intRows (natsI bt):=rfl
  have hln:(intRows (natsI bt)).length=bt.length:=by rw [z12,z67]
  obtain⟨rb,hrb⟩:∃ rb,rb=intRows (natsI (b::bt)):=⟨_,rfl⟩
  rw [← hrb] at g0 hlen hhd hdr ⊢
  have l0:0<bt.length + 1:=by omega
  have h55:=z1360 A B C m F S hS 5
  have h55a:=h55 s b M hs (z19 s hs) hi hbb
  obtain⟨⟨⟨v0,x0⟩,es0,c0⟩,hB0⟩:∃ q,q=bestM F S 5 b s M:=⟨_,rfl⟩
  rw [← hB0] at h55a
  dsimp only at h55a
  cases bt with
  | nil =>
   rw [shareM,← hB0]
   dsimp only [teamB,selfB,memK8,uRows,List.map_cons,List.map_nil]
   simp only [uD,rescC] at h55a ⊢
   refine z52 68 Tryd.call73 Tryd.func73 rfl (by decide) [] [(0,2),(1,3)] (by simp only [List.length_cons,List.length_nil];decide) (by kernel_rfl) fun J=>?_
   simp only [go_sem,St.startG,Tryd.ntmps73,Tryd.results73,List.map_cons,List.map_nil,List.range_succ,  ]
   repeat (first|refine nx ?_|(refine z3 fun K hK=>?_;simp only [go_sem];apply hK;clear hK K))
   refine z8 (by kernel_rfl) (by kernel_rfl) fun K hK=>?_
   simp only [go_sem,g0,hlen,List.length_nil]
   refine⟨_,.inPlace (n:=70) (hf:=h55a) (hn:=rfl) (hb:=rfl) (hla:=rfl) (ha:=z49 (by repeat (first|exact trivial|refine And.intro ?_ ?_|exact z53 rfl|exact z42 rfl rfl))) (hx:=by first|decide|simp [AV.refsAll,AV.refs,AV.refs.AV.refss]),?_⟩
   simp only [go_sem]
   refine⟨by kernel_rfl,hK _ ?_⟩
   clear hK K
   repeat (first|refine nx ?_|(refine z3 fun K hK=>?_;simp only [go_sem,hlen,List.length_nil];apply hK;clear hK K))
   refine z7 (by rfl) ?_
   repeat refine nx ?_
   refine z3 fun K hK=>?_
   simp only [go_sem]
   apply hK
   clear hK K
   refine z71 [27] ?_
   simp only [go_sem]
   repeat (first|refine nx ?_|(refine z3 fun K hK=>?_;simp only [go_sem];apply hK;clear hK K))
   simp only [go_sem]
  | cons c t =>
   obtain⟨w1,w2⟩:=z1107 hs
   obtain⟨N,hN⟩:∃ N,N=(c::t).length + 1:=⟨_,rfl⟩
   have hN2:2≤N:=by rw [hN];simp
   rw [← hN] at hlen
   have l0:0<N:=by omega
   have n1:(1:Int)≤(N:Int):=by omega
   have hq:((N:Int) == 1)=false:=by simp;omega
   have htk:List.take (N - 1) (intRows (natsI (c::t)))=intRows (natsI (c::t)):=List.take_of_length_le (by rw [hln];omega)
   have hih:=fun s M hs hi=>ih (by simp) (fun x hx=>hbm x (by simp at hx ⊢;exact .inr hx)) (by simp at hb3 ⊢;omega) s M hs hi
   rw [shareM,← hB0]
   dsimp only
   obtain⟨L,hL⟩:∃ L,L=subs s:=⟨_,rfl⟩
   obtain⟨stp,hstp⟩:∃ stp,stp=shareStep F S (shareM F S (c::t)) b s:=⟨_,rfl⟩
   rw [← hstp,← hL]
   rw [← hL] at w1 w2
   obtain⟨RES,hRES⟩:∃ R,R=L.foldl stp ((farW,[]),(es0,c0)):=⟨_,rfl⟩
   rw [← hRES]
   obtain⟨CT,hCT⟩:∃ CT,CT=intRows (natsI (c::t)):=⟨_,rfl⟩
   rw [← hCT] at hdr htk hih
   dsimp only [teamB,selfB,memK8] at hih ⊢
   simp only [uD,rescC] at h55 h55a hih ⊢
   refine z52 68 Tryd.call73 Tryd.func73 rfl (by decide) [] [(0,2),(1,3)] (by simp only [List.length_cons,List.length_nil];decide) (by kernel_rfl) fun J=>?_
   simp only [go_sem,St.startG,Tryd.ntmps73,Tryd.results73,List.map_cons,List.map_nil,List.range_succ,  ]
   repeat (first|refine nx ?_|(refine z3 fun K hK=>?_;simp only [go_sem];apply hK;clear hK K))
   refine z8 (by kernel_rfl) (by kernel_rfl) fun K hK=>?_
   simp only [go_sem,g0,hlen,l0]
   refine⟨_,.inPlace (n:=70) (hf:=h55a) (hn:=rfl) (hb:=rfl) (hla:=rfl) (ha:=z49 (by repeat (first|exact trivial|refine And.intro ?_ ?_|exact z53 rfl|exact z42 rfl rfl))) (hx:=by first|decide|simp [AV.refsAll,AV.refs,AV.refs.AV.refss]),?_⟩
   simp only [go_sem]
   refine⟨by kernel_rfl,hK _ ?_⟩
   clear hK K
   repeat (first|refine nx ?_|(refine z3 fun K hK=>?_;simp only [go_sem,hlen,hq];apply hK;clear hK K))
   refine z4 (by rfl) ?_
   repeat (first|refine nx ?_|(refine z3 fun K hK=>?_;simp only [go_sem];apply hK;clear hK K))
   refine z13 (fun (a:(Nat × Nat) × (Int × List Nat) × MemB)=>[(6,.d (.i a.2.1.1)),(7,.d (.sl (uRows a.2.1.2))),(8,.d (.int .u64 (a.1.2:Int))),(9,.undef),(10,.undef),(11,.undef),(12,.undef),(14,.undef)])
    (fun a=>[(70,some (.mp (some [.i64,.u64]) (memB a.2.2.1) a.2.2.2))]) (fun a=>L[a.1.1]?=some a.1.2∧a.2=(L.take a.1.1).foldl stp ((farW,[]),(es0,c0))) (fun a=>L.length - a.1.1) ((0,s),(farW,[]),(es0,c0)) ?_ ⟨w1,rfl⟩ ?_
   ·simp only [go_sem,uRows,List.map_nil,farW]
    refine weA ?_ ?_ <;> simp
   ·rintro⟨⟨j,o⟩,⟨least,sets⟩,es1,c1⟩ ⟨hj,hacc⟩
    dsimp only at hj hacc
    have hjl:=(List.getElem?_eq_some_iff.1 hj).1
    have ho:o &&& s=o:=z43.1 (by rw [← hL];exact List.mem_of_getElem? hj)
    obtain⟨p1,p2,p3,p4⟩:=z41 hs ho
    obtain⟨b1,b2⟩:=z1196 hs ho
    obtain⟨q1,q2⟩:=w2 j o hj
    have h55o:=h55 o b (es1,c1) p2 (z19 o p2) (fun i h=>hi i (p4.mem_iff.2 (by simp [h]))) hbb
    obtain⟨⟨⟨v1,x1⟩,es2,c2⟩,hB1⟩:∃ q,q=bestM F S 5 b o (es1,c1):=⟨_,rfl⟩
    have hrec:=hih (s - o) (es2,c2) p3 (fun i h=>hi i (p4.mem_iff.2 (by simp [h])))
    obtain⟨⟨⟨v2,sets2⟩,es3,c3⟩,hR1⟩:∃ q,q=shareM F S (c::t) (s - o) (es2,c2):=⟨_,rfl⟩
    have hnx:(L.take (j + 1)).foldl stp ((farW,[]),(es0,c0))=stp ((least,sets),(es1,c1)) o:=by rw [z24 _ _ _ _ _ hj,← hacc]
    have hnx0:=hnx
    rw [hstp,shareStep,← hstp] at hnx
    dsimp only at hnx
    rw [← hB1] at hnx h55o
    dsimp only at hnx h55o
    rw [← hR1] at hnx hrec
    dsimp only at hnx hrec
    obtain⟨cc,hcc⟩:∃ cc,cc=wr (v1 + v2):=⟨_,rfl⟩
    rw [← hcc] at hnx
    rw [wr] at hcc
    have fin:∀ st:Int × List Nat,stp ((least,sets),(es1,c1)) o=(st,(es3,c3))→o=0→RES=(st,(es3,c3)):=fun st h1 h0=>by
     have h2:=q1 h0
     rw [hRES,← h1,← hnx0,h2,List.take_length]
    have hsl2:(uRows sets2).length≤3:=by
     have:=z342 (F:=F) (S:=S) (c::t) (s - o) (es2,c2)
     rw [← hR1] at this
     simp only [uRows,List.length_map,List.length_cons] at this hb3 ⊢
     omega
    have hsc:1 + (uRows sets2).length≤549755813888:=by omega
    have hsh:headIs 1 (uRows sets2)=true:=by cases sets2 <;> rfl
    have hap:[DV.int .u64 (o:Int)]::uRows sets2=uRows (o::sets2):=rfl
    simp only [go_sem]
    repeat (first|refine nx ?_|(refine z3 fun K hK=>?_;simp only [go_sem];apply hK;clear hK K))
    refine z8 (by kernel_rfl) (by kernel_rfl) fun K hK=>?_
    simp only [go_sem,g0,hlen,l0]
    refine⟨_,.inPlace (n:=70) (hf:=h55o) (hn:=rfl) (hb:=rfl) (hla:=rfl) (ha:=z49 (by repeat (first|exact trivial|refine And.intro ?_ ?_|exact z53 rfl|exact z42 rfl rfl))) (hx:=by first|decide|simp [AV.refsAll,AV.refs,AV.refs.AV.refss]),?_⟩
    simp only [go_sem]
    refine⟨by kernel_rfl,hK _ ?_⟩
    clear hK K
    repeat refine nx ?_
    refine z138 (fun b=>[(43,bif b 0 then .undef else .fn 73 [.box 68 0,.box 69 0]),(44,bif b 1 then .undef else .d (.sl rb)),(45,bif b 2 then .undef else .d (.sl CT)),(46,bif b 3 then .undef else .d (.int .u64 (s:Int))),
     (47,bif b 4 then .undef else .d (.int .u64 (o:Int))),(48,bif b 5 then .undef else .d (.int .u64 ((s - o:Nat):Int))),(49,bif b 6 then .undef else .tup [.d (.i v2),.d (.sl (uRows sets2))]),(42,bif b 7 then .undef else .tup [.d (.i v2),.d (.sl (uRows sets2))]),
     (50,bif b 8 then .undef else .d (.i v2)),(51,bif b 9 then .undef else .d (.sl (uRows sets2))),(11,bif b 10 then .undef else .d (.i v2)),(12,bif b 11 then .undef else .d (.sl (uRows sets2))),
     (34,.agg [.d (.ptr [A,B,C,.sl (slRows (matM m F)),.sl (S.map SpotT.row)] 0),bif b 6 then .mp 70 else .undef])])
     (fun b=>[(70,bif b 6 then some (.mp (some [.i64,.u64]) (memB es2) c2) else some (.mp (some [.i64,.u64]) (memB es3) c3))]) 12 (by kernel_rfl) (by kernel_rfl) (by kernel_rfl) (by decide) ?_ ?_ (Weak.refl _) ?_
    ·simp only [go_sem]
    ·refine⟨?_,?_,?_,?_,?_,?_,?_,?_,?_,?_,?_,?_,trivial⟩
     all_goals
      intro b hbm hdm hcm
      simp only [depsM,Region.binds,true_and,and_true,Nat.zero_add,Nat.reduceAdd,reduceCtorEq,forall_const] at hdm
      refine⟨rfl,rfl,?_⟩
      simp only [go_sem,hbm,hdm,hlen,hhd,hdr,htk,n1,b1]
     ·simp only [closedM,List.take_succ_cons,List.take_zero,depsM,Region.binds,true_and,and_true,Nat.zero_add,Nat.reduceAdd,reduceCtorEq,forall_const] at hcm
      obtain⟨_,_,c2',_,_,c5',_,c7,c8,c9,c10,c11⟩:=hcm
      have e1:=c2' hdm.2.1
      have e34:=c5' hdm.2.2
      have e7:b 7=true:=by
       cases h:b 7 with
       | true=>rfl
       | false=>exact absurd (c7 h) (by simp [hbm])
      have e8:b 8=true:=by
       cases h:b 8 with
       | true=>rfl
       | false=>exact absurd (c8 h) (by simp [hbm,e7])
      have e9:b 9=true:=by
       cases h:b 9 with
       | true=>rfl
       | false=>exact absurd (c9 h) (by simp [hbm,e7,e8])
      have e10:b 10=true:=by
       cases h:b 10 with
       | true=>rfl
       | false=>exact absurd (c10 h) (by simp [hbm,e7,e8,e9])
      have e11:b 11=true:=by
       cases h:b 11 with
       | true=>rfl
       | false=>exact absurd (c11 h) (by simp [hbm,e7,e8,e9])
      simp only [go_sem,e1,e34,e7,e8,e9,e10,e11]
      refine⟨_,.own (ns:=[68,69,70]) (news:=[]) (bads:=[70]) (rd:=[]) (hf:=hrec) (hnd:=by decide) (hl0:=rfl) (hl1:=rfl) (hm:=by repeat (first|exact trivial|refine And.intro ?_ ?_|rfl)) (hnew:=rfl) (hla:=rfl) (ha:=z49 (by repeat (first|exact trivial|refine And.intro ?_ ?_|exact z53 rfl|exact z42 rfl rfl))) (hrd:=rfl) (hsh:=z149 _) (hb:=rfl) (hfl:=.inl rfl),?_⟩
      simp only [go_sem,List.map_cons,List.map_nil]
    intro K hK
    simp only [go_sem]
    refine hK _ _ ?_
    clear hK K
    by_cases hlt:cc<least
    ·have hd:decide (cc<least)=true:=decide_eq_true hlt
     rw [if_pos hlt] at hnx
     repeat (first|refine nx ?_|(refine z3 fun K hK=>?_;simp only [go_sem,← hcc,hd];apply hK;clear hK K))
     refine z7 (by rfl) ?_
     repeat refine nx ?_
     refine z3 fun K hK=>?_
     simp only [go_sem,← hcc,hsc,hsh,List.length_cons,List.length_nil,List.cons_append,List.nil_append,hap]
     apply hK
     clear hK K
     refine z71 [61] ?_
     simp only [go_sem]
     by_cases h0:o=0
     ·have hz:((o:Int) == 0)=true:=by simp [h0]
      rw [fin _ (hnx0.symm.trans hnx) h0]
      dsimp only
      repeat (first|refine nx ?_|(refine z3 fun K hK=>?_;simp only [go_sem,hz];apply hK;clear hK K))
      refine z7 (by rfl) ?_
      repeat (first|refine nx ?_|(refine z3 fun K hK=>?_;simp only [go_sem];apply hK;clear hK K))
      simp only [go_sem]
     ·have hz:((o:Int) == 0)=false:=by simp [h0]
      have b2':=b2 h0
      repeat (first|refine nx ?_|(refine z3 fun K hK=>?_;simp only [go_sem,hz];apply hK;clear hK K))
      refine z4 (by rfl) ?_
      repeat (first|refine nx ?_|(refine z3 fun K hK=>?_;simp only [go_sem,b2'];apply hK;clear hK K))
      refine⟨rfl,((j + 1,(o - 1) &&& s),(cc,o::sets2),(es3,c3)),?_,⟨q2 h0,hnx.symm⟩,by dsimp only;omega⟩
      try simp only [go_sem]
      refine weA ?_ ?_ <;> simp
    ·have hd:decide (cc<least)=false:=decide_eq_false hlt
     rw [if_neg hlt] at hnx
     repeat (first|refine nx ?_|(refine z3 fun K hK=>?_;simp only [go_sem,← hcc,hd];apply hK;clear hK K))
     refine z4 (by rfl) ?_
     by_cases h0:o=0
     ·have hz:((o:Int) == 0)=true:=by simp [h0]
      rw [fin _ (hnx0.symm.trans hnx) h0]
      dsimp only
      repeat (first|refine nx ?_|(refine z3 fun K hK=>?_;simp only [go_sem,hz];apply hK;clear hK K))
      refine z7 (by rfl) ?_
      repeat (first|refine nx ?_|(refine z3 fun K hK=>?_;simp only [go_sem];apply hK;clear hK K))
      simp only [go_sem]
     ·have hz:((o:Int) == 0)=false:=by simp [h0]
      have b2':=b2 h0
      repeat (first|refine nx ?_|(refine z3 fun K hK=>?_;simp only [go_sem,hz];apply hK;clear hK K))
      refine z4 (by rfl) ?_
      repeat (first|refine nx ?_|(refine z3 fun K hK=>?_;simp only [go_sem,b2'];apply hK;clear hK K))
      refine⟨rfl,((j + 1,(o - 1) &&& s),(least,sets),(es3,c3)),?_,⟨q2 h0,hnx.symm⟩,by dsimp only;omega⟩
      try simp only [go_sem]
      refine weA ?_ ?_ <;> simp
end Go.Ab
