/- A walk engine over abstract states, and the contracts of the functions that the statement reaches: part 5. -/
import Derived.Test.YtfkbbaagifpjpaaDoorWd
set_option linter.unusedVariables false
set_option linter.unusedSimpArgs false
set_option linter.unnecessarySimpa false
/- A function that writes a map and makes arrays of its own: what it makes is told as a deep value. -/
namespace Go.Ab
open Go.RowKit
theorem FnG.deepMp {P:Program} {f:FuncId} {b0:Blk} {args:List AV} {r:AV} {kk:KK} {es:List (MK × DV × Nat)} {c:Nat} {rest:List Blk} {d:DV} (h:FnG P f [b0] [0] args r (.mp kk es c::rest)) (hr:reify ((.mp kk es c::rest:List Blk).map some) Ab.deep r=some d)
  (h0:∀ n ∈ r.refs,n≠0) (ha:∀ n ∈ r.refs,∃ e z rows,((.mp kk es c::rest:List Blk).map some)[n]?=some (some (.arr e z rows))):FnG P f [b0] [0] args (.d d) [.mp kk es c] :=
 ⟨h.enters,fun base w own μ0 vs h1 h2 h3 h4 h5 h6=>(h.calls base w own μ0 vs h1 h2 h3 h4 h5 h6).mono fun en w' hq=>by
  obtain ⟨v,μ1,he,hv,hm,hk,hp⟩:=hq
  obtain ⟨μ2,hμ2⟩:∃ μ2:Pl,μ2=fun i=>if i=0 then μ1 0 else none:=⟨_,rfl⟩
  have e0:μ2 0=μ1 0:=by rw [hμ2];rfl
  have hs:∀ i L,μ2 i=some L→i=0∧μ1 0=some L:=fun i L hi=>by
   rw [hμ2] at hi
   dsimp only at hi
   split at hi
   ·exact ⟨by assumption,hi⟩
   ·cases hi
  have hsub:∀ q,ownOf own μ2 q→ownOf own μ1 q:=by
   rintro q (h | ⟨i,z,l,c,h⟩)
   ·exact .inl h
   ·exact .inr ⟨0,z,l,c,(hs i _ h).2⟩
  have hg:Goes w' (ownOf own μ1) w' (ownOf own μ2):=fun q o u h1 h2=>⟨fun hc=>h1 (hsub q hc),h2⟩
  refine ⟨v,μ2,he,.d (z39 hm (ownOf own μ2) hsub (fun n=>n≠0) (fun n b z l c hn hb hc=>?_) Ab.deep r v d hv hr h0 (.inr ha)),⟨fun n b hb=>?_,fun n hn=>?_,fun n k b z l c z' l' c' q1 q2=>?_,fun n b z l c hn=>?_⟩,⟨hk.keep,fun b hb hno=>?_⟩,fun i hi=>?_⟩
  ·rcases hc with hc | ⟨i,z',l',c',hc⟩
   ·exact (hm.base n b z l c hb).2.2 hc
   ·exact hn (hm.inj n 0 b z l c z' l' c' hb (hs i _ hc).2)
  ·cases n with
   | zero =>
    have e:Blk.mp kk es c=b:=by simpa using hb
    subst e
    exact BlkRel.mapN (μ':=μ2) (n':=0) (h:=fun _=>none) (.inl hg) e0 (fun k _ j hj=>by cases hj) (fun _ _ _ _ _=>rfl) (hm.blk 0 (.mp kk es c) rfl)
   | succ n=>simp at hb
  ·obtain ⟨L,hL⟩:=Option.isSome_iff_exists.1 hn
   obtain ⟨rfl,_⟩:=hs n L hL
   exact ⟨_,rfl⟩
  ·obtain ⟨rfl,_⟩:=hs n _ q1
   obtain ⟨rfl,_⟩:=hs k _ q2
   rfl
  ·obtain ⟨rfl,h⟩:=hs n _ hn
   exact hm.base 0 b z l c h
  ·obtain ⟨p1,p2⟩:=hk.stays b hb hno
   exact ⟨p1,fun hc=>p2 (hsub b hc)⟩
  ·have:i=0:=by simpa using hi
   subst this
   rw [e0]
   exact hp 0 (by simp)⟩
end Go.Ab
namespace Go.Ab
open Go.RowKit Go.Proofs
set_option maxHeartbeats 8000000
set_option maxRecDepth 20000
attribute [local irreducible] WalkL Walk
def fullN (S:List SpotT):Nat:=2 ^ S.length - 1
def bestP (F:Mat) (S:List SpotT) (b:Nat):(Int × Int) × MemB:=bestM F S 5 b (fullN S) ([],0)
def orderP (F:Mat) (S:List SpotT) (b:Nat):List Int:=(orderM F S 5 b (fullN S) (bestP F S b).2).1
def planC (n:Net) (p:Party) (F:Mat) (base:Int) (S:List SpotT):List Int × Int × Int :=
 if readyE n p [base] S≠0 then ([],0,readyE n p [base] S) else if (bestP F S base.toNat).1.1 ≥ farW then ([],0,3) else (orderP F S base.toNat,(bestP F S base.toNat).1.1,0)
def planD (r:List Int × Int × Int):DV:=.tup [.sl (intRows r.1),.i r.2.1,.i r.2.2]
def OrdP (F:Mat) (S:List SpotT) (b:Nat):Prop:=(bestP F S b).1.1<farW→OrdOk F S 5 b (fullN S) (bestP F S b).2
theorem z1231 {S:List SpotT} (h:S.length≤5):fullN S<32:=by
 have:∀ k:Nat,k≤5→2 ^ k - 1<32:=by decide
 exact this _ h
theorem z1182:∀ k:Nat,k≤5→∀ i ∈ elems (2 ^ k - 1),i<k:=by decide +kernel
theorem z1183:∀ s:Nat,s<32→(elems s).length≤5:=by decide +kernel
theorem z1146 {n:Net} {p:Party} {bases:List Int} {S:List SpotT} (h:readyE n p bases S=0):n.Good∧p.Good∧(1≤S.length∧S.length≤8)∧(∀ s ∈ S,(0≤s.pl∧s.pl<n.places)∧(0≤s.wt∧s.wt≤100)∧(0≤s.se∧s.se≤600))∧(1≤bases.length∧bases.length≤3)∧∀ b ∈ bases,0≤b∧b<n.places:=by
 rw [readyE] at h
 split at h
 ·rename_i hc;exact absurd h hc
 ·rename_i hc
  have hc:=Classical.not_not.1 hc
  obtain ⟨g1,g2⟩:=z127.1 hc
  split at h
  ·cases h
  ·rename_i hb
   have hb:badTeams n bases S=false:=by simpa using hb
   simp only [badTeams,Bool.or_eq_false_iff,Bool.not_eq_false',z14,List.any_eq_false] at hb
   obtain ⟨h1,h2,h3,h4⟩:=hb
   refine ⟨g1,g2,by omega,fun s hs=>?_,by omega,fun b hb=>?_⟩
   ·have h5:badSpot n s=false:=by simpa using h2 s hs
    simp only [badSpot,Bool.or_eq_false_iff,Bool.not_eq_false',z14] at h5
    omega
   ·have h5:badBase n b=false:=by simpa using h4 b hb
    simp only [badBase,Bool.not_eq_false',z14] at h5
    omega
theorem z1366 (n:Net) (p:Party) (F:Mat) (base:Int) (S:List SpotT) (hs:n.Small) (hl:S.length≤5∨readyE n p [base] S≠0) (hl2:S.length<2 ^ 30) (hF:readyE n p [base] S=0→matM n.places.toNat (allM n p)=matM n.places.toNat F)
  (ho:readyE n p [base] S=0→OrdP F S base.toNat):Fn Tryd.prog 21 [.agg n.cells,.agg p.cells,.i base,.sl (S.map SpotT.row)] (planD (planC n p F base S)):=by
 have h53:=z1356 n p [base] S hs (by simp) hl2
 rw [planC,planD]
 by_cases he:readyE n p [base] S=0
 ·obtain ⟨hg,hp,hlen,hsp,_,hbase⟩:=z1146 he
  have hb:=hbase base (by simp)
  have hpl:=hg.places
  have hl5:S.length≤5:=hl.resolve_right fun h=>h he
  obtain ⟨b,rfl⟩:∃ b:Nat,base=b:=⟨base.toNat,by omega⟩
  have hbm:b<n.places.toNat:=by omega
  have hS:SpotsOk n.places.toNat S:=⟨hl5,fun s hs=>by have:=(hsp s hs).1;omega⟩
  have hf32:=z1231 hl5
  have hfi:∀ i ∈ elems (fullN S),i<S.length:=z1182 _ hl5
  have ho':=ho he
  rw [readyD,he,if_pos rfl,rescN,rescC,hF he] at h53
  rw [if_neg (fun h=>h he)]
  rw [Int.toNat_natCast] at ho' ⊢
  have h54:=z1355 (rescC (.i n.places) (.sl (n.paths.map Path.row)) (timesD n p) n.places.toNat F S)
  have h56:=z1354 (.i n.places) (.sl (n.paths.map Path.row)) (timesD n p) n.places.toNat F S hl5
  have h55:=z1333 (.i n.places) (.sl (n.paths.map Path.row)) (timesD n p) n.places.toNat F S hS 5 (fullN S) b ([],0) hf32 (z1183 _ hf32) hfi hbm
  have h57:=z1353 (.i n.places) (.sl (n.paths.map Path.row)) (timesD n p) n.places.toNat F S hS 5 (fullN S) b (bestP F S b).2 hf32 hfi hbm
  rw [orderP]
  unfold OrdP at ho'
  unfold bestP at ho' h57 ⊢
  obtain ⟨R,hR⟩:∃ R,R=bestM F S 5 b (fullN S) ([],0):=⟨_,rfl⟩
  rw [← hR] at h55 ho' h57 ⊢
  obtain ⟨⟨cost,r2⟩,es,c⟩:=R
  dsimp only at h55 ho' h57 ⊢
  rw [fullN] at h55 h57
  simp only [rescC,timesD,mapD,uD] at h53 h54 h55 h56 h57
  change FnG Tryd.prog 55 [.mp (some [.i64,.u64]) [] 0] [0] _ _ _ at h55
  refine z10 43 Tryd.call21 Tryd.func21 rfl (by decide) fun J=>?_
  simp only [go_sem,St.start,Tryd.ntmps21,Tryd.results21,Net.cells,Party.cells]
  repeat (first | refine nx ?_ | (refine z3 fun K hK=>?_;simp only [go_sem];(repeat (first | (refine ⟨_,.lent (hf:=h53) (hd:=rfl) (hr:=rfl),?_⟩;simp only [go_sem]) | (refine ⟨_,.given (hf:=h53) (hd:=rfl) (ha:=rfl),?_⟩;simp only [go_sem])));apply hK;clear hK K))
  refine z6 (by rfl) ?_
  repeat (first | refine nx ?_ | (refine z3 fun K hK=>?_;simp only [go_sem];apply hK;clear hK K))
  refine z3 fun K hK=>?_
  simp only [go_sem]
  refine ⟨_,.made (news:=[26]) (hf:=h54) (hd:=rfl) (hn:=by decide) (hl:=rfl) (hnew:=rfl) (hx:=rfl),?_⟩
  simp only [go_sem,List.map_cons,List.map_nil]
  apply hK
  clear hK K
  repeat (first | refine nx ?_ | (refine z3 fun K hK=>?_;simp only [go_sem];apply hK;clear hK K))
  refine z8 (by kernel_rfl) (by kernel_rfl) fun K hK=>?_
  simp only [go_sem]
  refine ⟨_,.fn (hf:=h56) (hd:=rfl) (hr:=.inl rfl),?_⟩
  simp only [go_sem]
  refine ⟨_,.inPlace (n:=26) (hf:=h55) (hn:=rfl) (hb:=rfl) (hla:=rfl) (ha:=z60 (by repeat (first | exact trivial | refine And.intro ?_ ?_ | exact z78 rfl | exact z52 rfl rfl))) (hx:=by first | decide | simp [AV.refsAll,AV.refs,AV.refs.AV.refss]),?_⟩
  simp only [go_sem]
  refine ⟨by kernel_rfl,hK _ ?_⟩
  clear hK K
  by_cases hc:cost ≥ farW
  ·have hd:decide (cost ≥ 1099511627776)=true:=by simpa [farW] using hc
   rw [if_pos hc]
   repeat (first | refine nx ?_ | (refine z3 fun K hK=>?_;simp only [go_sem,hd];apply hK;clear hK K))
   refine z9 rfl ?_
   repeat (first | refine nx ?_ | (refine z3 fun K hK=>?_;simp only [go_sem];apply hK;clear hK K))
   simp only [go_sem,intRows,List.map_nil]
  ·have hd:decide (cost ≥ 1099511627776)=false:=by simpa [farW] using hc
   rw [if_neg hc]
   have h57o:=h57 (by have:=ho' (by omega);rwa [fullN] at this) (by decide)
   obtain ⟨O,hO⟩:∃ O,O=orderM F S 5 b (2 ^ S.length - 1) (es,c):=⟨_,rfl⟩
   rw [fullN,← hO]
   rw [← hO] at h57o
   obtain ⟨ol,es2,c2⟩:=O
   dsimp only at h57o ⊢
   have h57d:=h57o.deepMp (d:=.sl (intRows ol)) rfl (by simp [AV.refs]) (by simp [AV.refs])
   repeat (first | refine nx ?_ | (refine z3 fun K hK=>?_;simp only [go_sem,hd];apply hK;clear hK K))
   refine z6 rfl ?_
   repeat (first | refine nx ?_ | (refine z3 fun K hK=>?_;simp only [go_sem];apply hK;clear hK K))
   refine z8 (by kernel_rfl) (by kernel_rfl) fun K hK=>?_
   simp only [go_sem]
   refine ⟨_,.fn (hf:=h56) (hd:=rfl) (hr:=.inl rfl),?_⟩
   simp only [go_sem]
   refine ⟨_,.inPlace (n:=26) (hf:=h57d) (hn:=rfl) (hb:=rfl) (hla:=rfl) (ha:=z60 (by repeat (first | exact trivial | refine And.intro ?_ ?_ | exact z78 rfl | exact z52 rfl rfl))) (hx:=by first | decide | simp [AV.refsAll,AV.refs,AV.refs.AV.refss]),?_⟩
   simp only [go_sem]
   refine ⟨by kernel_rfl,hK _ ?_⟩
   clear hK K
   repeat (first | refine nx ?_ | (refine z3 fun K hK=>?_;simp only [go_sem];apply hK;clear hK K))
   simp only [go_sem]
 ·have hne:(readyE n p [base] S != 0)=true:=by simpa using he
  rw [if_pos he]
  rw [readyD,if_neg he] at h53
  change Fn Tryd.prog 53 [_,_,.sl [[.i base]],_] _ at h53
  refine z10 43 Tryd.call21 Tryd.func21 rfl (by decide) fun J=>?_
  simp only [go_sem,St.start,Tryd.ntmps21,Tryd.results21,Net.cells,Party.cells]
  rw [Net.cells,Party.cells] at h53
  repeat (first | refine nx ?_ | (refine z3 fun K hK=>?_;simp only [go_sem];(repeat (first | (refine ⟨_,.lent (hf:=h53) (hd:=rfl) (hr:=rfl),?_⟩;simp only [go_sem]) | (refine ⟨_,.given (hf:=h53) (hd:=rfl) (ha:=rfl),?_⟩;simp only [go_sem])));apply hK;clear hK K))
  refine z5 rfl (fun _=>?_) (fun hc=>by rw [hne] at hc;cases hc)
  repeat (first | refine nx ?_ | (refine z3 fun K hK=>?_;simp only [go_sem];apply hK;clear hK K))
  simp only [go_sem,intRows,List.map_nil]
end Go.Ab
namespace Go.Ab
open Go.RowKit Go.Proofs
set_option maxRecDepth 100000
def getL (W:List (List Int)) (a b:Nat):Int:=(W.getD a []).getD b 0
def setLL (W:List (List Int)) (a b:Nat) (v:Int):List (List Int):=W.set a ((W.getD a []).set b v)
def relaxLL (p:Party) (W:List (List Int)) (w:Nat × Path):List (List Int):=setLL W w.2.frm.toNat w.2.to.toNat (min (getL W w.2.frm.toNat w.2.to.toNat) (spanW w.2 p).hi)
def viaLL (v:Nat) (W:List (List Int)) (a b:Nat):List (List Int):=setLL W a b (min (getL W a b) (wr (getL W a v + getL W v b)))
def allLL (n:Net) (p:Party):List (List Int) :=
 let m:=n.places.toNat
 (List.range m).foldl (fun F v=>(List.range m).foldl (fun F a=>(List.range m).foldl (fun F b=>viaLL v F a b) F) F) ((canL n p).foldl (relaxLL p) (matM m zeroM))
theorem z295 {m:Nat} {F:Mat} {a b:Nat} (ha:a<m) (hb:b<m):getL (matM m F) a b=F a b:=by
 simp only [getL,List.getD_eq_getElem?_getD,z98 ha,Option.getD_some,z89 hb]
theorem z665 {m:Nat} {F:Mat} {a b:Nat} (ha:a<m) (v:Int):setLL (matM m F) a b v=matM m (updM F a b v):=by
 simp only [setLL,List.getD_eq_getElem?_getD,z98 ha,Option.getD_some,z538]
theorem z1060 {m:Nat} {p:Party} {F:Mat} {w:Nat × Path} (ha:w.2.frm.toNat<m) (hb:w.2.to.toNat<m):relaxLL p (matM m F) w=matM m (relaxM p F w):=by
 rw [relaxLL,z295 ha hb,z665 ha,relaxM]
theorem z1206 {m v a b:Nat} {F:Mat} (hv:v<m) (ha:a<m) (hb:b<m):viaLL v (matM m F) a b=matM m (viaM v F a b):=by
 rw [viaLL,z295 ha hb,z295 ha hv,z295 hv hb,z665 ha,viaM]
theorem z225 {α:Type} {m:Nat} (f:List (List Int)→α→List (List Int)) (g:Mat→α→Mat):∀ (l:List α) (F:Mat),(∀ F,∀ x ∈ l,f (matM m F) x=matM m (g F x))→l.foldl f (matM m F)=matM m (l.foldl g F)
 | [],F,_=>rfl
 | x::l,F,h=>by
  rw [List.foldl_cons,h F x (by simp),List.foldl_cons]
  exact z225 f g l _ fun F y hy=>h F y (by simp [hy])
theorem z1239 {n:Net} (p:Party) (hg:n.Good):allLL n p=matM n.places.toNat (allM n p):=by
 rw [allLL,allM]
 rw [z225 (relaxLL p) (relaxM p) _ _ (fun F w hw=>by
  obtain ⟨_,h2,_⟩:=z192 hw
  have:=hg.path w.2 (List.mem_of_getElem? h2)
  exact z1060 (by have:=this.frm;omega) (by have:=this.to;omega))]
 refine z225 _ _ _ _ fun F v hv=>?_
 refine z225 _ _ _ _ fun F a ha=>?_
 refine z225 _ _ _ _ fun F b hb=>?_
 exact z1206 (List.mem_range.1 hv) (List.mem_range.1 ha) (List.mem_range.1 hb)
def exM:Missed:=⟨exP,0,300,600,30,[⟨420,2,true⟩,⟨500,4,false⟩,⟨560,9,true⟩]⟩
end Go.Ab
namespace Go.Ab
open Go.RowKit Go.Proofs
set_option maxHeartbeats 8000000
set_option maxRecDepth 20000
attribute [local irreducible] WalkL Walk
def exSpots:List (List DV):=[[.i 3,.i 50,.i 60],[.i 1,.i 30,.i 20],[.i 2,.i 20,.i 40]]
theorem z1357:Fn Tryd.prog 46 [] (.tup [.agg exN.cells,.agg exM.row,.sl exSpots]):=by
 have h49:=z1347
 refine z10 20 Tryd.call46 Tryd.func46 rfl (by decide) fun J=>?_
 simp only [go_sem,St.start,Tryd.ntmps46,Tryd.results46,]
 repeat (first | refine nx ?_ | (refine z3 fun K hK=>?_;simp only [go_sem,exN,exP,Net.cells,Party.cells,Path.row,Span.row];(repeat (first | (refine ⟨_,.lent (hf:=h49) (hd:=rfl) (hr:=rfl),?_⟩;simp only [go_sem,exN,exP,Net.cells,Party.cells,Path.row,Span.row]) | (refine ⟨_,.given (hf:=h49) (hd:=rfl) (ha:=rfl),?_⟩;simp only [go_sem,exN,exP,Net.cells,Party.cells,Path.row,Span.row])));apply hK;clear hK K))
 refine z8 (by kernel_rfl) (by kernel_rfl) fun K hK=>?_
 simp only [go_sem,exN,exP,Net.cells,Party.cells,Path.row,Span.row]
 refine ⟨by kernel_rfl,hK _ ?_⟩
 clear hK K
 repeat (first | refine nx ?_ | (refine z3 fun K hK=>?_;simp only [go_sem];apply hK;clear hK K))
 simp only [go_sem]
 rfl
end Go.Ab
namespace Go.Ab
open Go.RowKit Go.Proofs
set_option maxHeartbeats 4000000
set_option maxRecDepth 20000
attribute [local irreducible] WalkL Walk
def staysF (cl:List Clue) (place top:Int):Nat→Int→List Int
 | 0,_=>[]
 | f + 1,m=>if m≤top∧atB cl place m=true then m::staysF cl place top f (m + 1) else []
def staysL (x:Missed) (place m most:Int):List Int:=staysF x.clues place (min most x.now) (min most x.now - m + 1).toNat m
theorem z230 {α:Type} {l:List α} {j:Nat} {x:α} {r:List α} (h:l.drop j=x::r):l[j]?=some x∧l.drop (j + 1)=r∧j<l.length:=by
 have h1:l[j]?=some x:=by
  have:=congrArg (fun l=>l[0]?) h
  simpa using this
 refine ⟨h1,?_,(List.getElem?_eq_some_iff.1 h1).1⟩
 have:=congrArg (List.drop 1) h
 simpa [Nat.add_comm] using this
theorem z139 {α:Type} {l:List α} {j:Nat} (h:l.drop j=[]) (hj:j≤l.length):j=l.length:=by
 have:=List.drop_eq_nil_iff.1 h
 omega
def minRows (l:List Int):List (List DV):=l.map fun m=>[.i m]
theorem z330 {l:List Int} {j:Nat} {m:Int} (h:l[j]?=some m):(minRows l)[j]?=some [.i m]:=by simp [minRows,h]
def trkB (n:Net) (x:Missed):List DV:=[.ptr (huntC n x) 0]
theorem z1227 (n:Net) (x:Missed) (place m0 most:Int) (hp:0≤place) (hm:0≤m0∧m0≤2 ^ 40) (hn:x.now≤2 ^ 40) (hl:x.clues.length<2 ^ 62) :
  IterB Tryd.prog 102 (fun b=>[.ptr [.i place,.i m0] 0,.ptr [.i most] 0,.ptr [.raw b 0] 0]) ((trkB n x).map some) (minRows (staysL x place m0 most)):=by
 refine z458 40 Tryd.call102 Tryd.func102 rfl rfl fun l J B pb hS hG hP=>?_
 simp only [go_sem,St.start,Tryd.ntmps102]
 repeat (first | refine nx ?_ | (refine z3 fun K hK=>?_;simp only [go_sem];apply hK;clear hK K))
 obtain ⟨L,hL⟩:∃ L,L=staysL x place m0 most:=⟨_,rfl⟩
 obtain ⟨top,htop⟩:∃ top,top=min most x.now:=⟨_,rfl⟩
 rw [← hL]
 have hL0:L=staysF x.clues place top (top - m0 + 1).toNat m0:=by rw [hL,staysL,htop]
 refine z62 (fun (j:Nat)=>[(5,.d (.i (m0 + j)))]) (fun _=>[]) (fun k j=>k=some j∧j≤L.length∧L.drop j=staysF x.clues place top ((top - m0 + 1).toNat - j) (m0 + j)) (fun j=>(top - m0 + 1).toNat + 1 - j) 0 ?_ ⟨rfl,Nat.zero_le _,by simpa using hL0⟩ ?_
 ·simp only [go_sem]
  refine weA ?_ ?_ <;> simp
 ·rintro k j ⟨rfl,hj,hd⟩
  simp only [go_sem]
  have hc9:(huntC n x)[9]?=some (.i x.now):=rfl
  repeat refine nx ?_
  have h74:=z1204 n x place (m0 + j) hp hl
  by_cases h1:m0 + (j:Int)≤min most x.now
  ·have hb1:decide (m0 + (j:Int)≤min most x.now)=true:=by simpa using h1
   have hf1:(top - m0 + 1).toNat - j=((top - m0 + 1).toNat - (j + 1)) + 1:=by omega
   have hw:IntKind.i64.wrap (m0 + (j:Int) + 1)=m0 + ((j + 1:Nat):Int):=by rw [z11 (by omega)];omega
   rw [hf1,staysF] at hd
   by_cases h2:atB x.clues place (m0 + j)=true
   ·rw [if_pos ⟨by omega,h2⟩] at hd
    obtain ⟨hg,hd2,hlt⟩:=z230 hd
    refine z167 hS hG hP 25 (by kernel_rfl) (by kernel_rfl) (by kernel_rfl) (by decide) rfl fun K hK=>?_
    simp only [go_sem,trkB,hc9,hb1]
    refine ⟨_,.fn (hf:=h74) (hd:=rfl) (hr:=.inl rfl),?_⟩
    simp only [go_sem,hb1,h2]
    refine ⟨by kernel_rfl,?_⟩
    refine ⟨rfl,j,[.i (m0 + j)],rfl,rfl,by rw [← hL];exact z330 hg,?_,?_⟩
    ·simp only [go_sem]
     refine hK _ _ ?_
     clear hK K
     refine z9 rfl ?_
     repeat (first | refine nx ?_ | (refine z3 fun K hK=>?_;simp only [go_sem,hw];apply hK;clear hK K))
     refine ⟨j + 1,?_,⟨rfl,hlt,by rw [hd2];congr 1;omega⟩,by omega⟩
     refine weA ?_ ?_ <;> simp
    ·simp only [go_sem]
     refine hK _ _ ?_
     clear hK K
     refine z6 rfl ?_
     repeat (first | refine nx ?_ | (refine z3 fun K hK=>?_;simp only [go_sem];apply hK;clear hK K))
     exact ⟨trivial,.inr rfl⟩
   ·rw [if_neg (fun hc=>h2 hc.2)] at hd
    have h2:atB x.clues place (m0 + j)=false:=by simpa using h2
    have he:=z139 hd hj
    refine z167 hS hG hP 25 (by kernel_rfl) (by kernel_rfl) (by kernel_rfl) (by decide) rfl fun K hK=>?_
    simp only [go_sem,trkB,hc9,hb1]
    refine ⟨_,.fn (hf:=h74) (hd:=rfl) (hr:=.inl rfl),?_⟩
    simp only [go_sem,hb1,h2]
    refine ⟨by kernel_rfl,?_⟩
    refine hK _ _ ?_
    clear hK K
    refine z6 rfl ?_
    repeat (first | refine nx ?_ | (refine z3 fun K hK=>?_;simp only [go_sem];apply hK;clear hK K))
    exact ⟨trivial,.inl (by rw [he,minRows,List.length_map])⟩
  ·have hb1:decide (m0 + (j:Int)≤min most x.now)=false:=by simpa using h1
   have he:j=L.length:=by
    refine z139 ?_ hj
    rw [hd]
    cases hf:(top - m0 + 1).toNat - j with
    | zero=>rfl
    | succ f=>rw [staysF,if_neg (fun hc=>h1 (by rw [← htop];exact hc.1))]
   refine z167 hS hG hP 25 (by kernel_rfl) (by kernel_rfl) (by kernel_rfl) (by decide) rfl fun K hK=>?_
   simp only [go_sem,trkB,hc9,hb1]
   refine ⟨by kernel_rfl,?_⟩
   refine hK _ _ ?_
   clear hK K
   refine z6 rfl ?_
   repeat (first | refine nx ?_ | (refine z3 fun K hK=>?_;simp only [go_sem];apply hK;clear hK K))
   exact ⟨trivial,.inl (by rw [he,minRows,List.length_map])⟩
theorem z1089 (n:Net) (x:Missed) (a b:DV) (place m0 most:Int) (hp:0≤place) (hm:0≤m0∧m0≤2 ^ 40) (hn:x.now≤2 ^ 40) (hl:x.clues.length<2 ^ 62) :
  IterE Tryd.prog 102 [] (fun l=>[.d (.yld l),.d (.ptr [.i place,.i m0] 0),.d (.ptr [.i most] 0),.d (.ptr [.ptr [.ptr (huntC n x) 0,a,b] 0] 0)]) (minRows (staysL x place m0 most)):=by
 refine z254 40 Tryd.call102 Tryd.func102 rfl rfl fun l J hG=>?_
 simp only [go_sem,St.startG,Tryd.ntmps102,Tryd.results102,List.map_cons,List.map_nil,List.range_succ,  ]
 repeat (first | refine nx ?_ | (refine z3 fun K hK=>?_;simp only [go_sem];apply hK;clear hK K))
 obtain ⟨L,hL⟩:∃ L,L=staysL x place m0 most:=⟨_,rfl⟩
 obtain ⟨top,htop⟩:∃ top,top=min most x.now:=⟨_,rfl⟩
 rw [← hL]
 have hL0:L=staysF x.clues place top (top - m0 + 1).toNat m0:=by rw [hL,staysL,htop]
 refine z62 (fun (j:Nat)=>[(5,.d (.i (m0 + j)))]) (fun _=>[]) (fun k j=>k=some j∧j≤L.length∧L.drop j=staysF x.clues place top ((top - m0 + 1).toNat - j) (m0 + j)) (fun j=>(top - m0 + 1).toNat + 1 - j) 0 ?_ ⟨rfl,Nat.zero_le _,by simpa using hL0⟩ ?_
 ·simp only [go_sem]
  refine weA ?_ ?_ <;> simp
 ·rintro k j ⟨rfl,hj,hd⟩
  simp only [go_sem]
  have hc9:(huntC n x)[9]?=some (.i x.now):=rfl
  repeat refine nx ?_
  have h74:=z1204 n x place (m0 + j) hp hl
  by_cases h1:m0 + (j:Int)≤min most x.now
  ·have hb1:decide (m0 + (j:Int)≤min most x.now)=true:=by simpa using h1
   have hf1:(top - m0 + 1).toNat - j=((top - m0 + 1).toNat - (j + 1)) + 1:=by omega
   have hw:IntKind.i64.wrap (m0 + (j:Int) + 1)=m0 + ((j + 1:Nat):Int):=by rw [z11 (by omega)];omega
   rw [hf1,staysF] at hd
   by_cases h2:atB x.clues place (m0 + j)=true
   ·rw [if_pos ⟨by omega,h2⟩] at hd
    obtain ⟨hg,hd2,hlt⟩:=z230 hd
    refine z67 hG [] 25 (by kernel_rfl) (by kernel_rfl) (by kernel_rfl) (by decide) fun K hK=>?_
    simp only [go_sem,hc9,hb1]
    refine ⟨_,.fn (hf:=h74) (hd:=rfl) (hr:=.inl rfl),?_⟩
    simp only [go_sem,hb1,h2]
    refine ⟨by kernel_rfl,?_⟩
    refine ⟨rfl,j,[.i (m0 + j)],rfl,rfl,rfl,by rw [← hL];exact z330 hg,?_,?_⟩
    ·simp only [go_sem]
     refine hK _ _ ?_
     clear hK K
     refine z9 rfl ?_
     repeat (first | refine nx ?_ | (refine z3 fun K hK=>?_;simp only [go_sem,hw];apply hK;clear hK K))
     refine ⟨j + 1,?_,⟨rfl,hlt,by rw [hd2];congr 1;omega⟩,by omega⟩
     refine weA ?_ ?_ <;> simp
    ·simp only [go_sem]
     refine hK _ _ ?_
     clear hK K
     refine z6 rfl ?_
     repeat (first | refine nx ?_ | (refine z3 fun K hK=>?_;simp only [go_sem];apply hK;clear hK K))
     exact ⟨trivial,.inr rfl⟩
   ·rw [if_neg (fun hc=>h2 hc.2)] at hd
    have h2:atB x.clues place (m0 + j)=false:=by simpa using h2
    have he:=z139 hd hj
    refine z67 hG [] 25 (by kernel_rfl) (by kernel_rfl) (by kernel_rfl) (by decide) fun K hK=>?_
    simp only [go_sem,hc9,hb1]
    refine ⟨_,.fn (hf:=h74) (hd:=rfl) (hr:=.inl rfl),?_⟩
    simp only [go_sem,hb1,h2]
    refine ⟨by kernel_rfl,?_⟩
    refine hK _ _ ?_
    clear hK K
    refine z6 rfl ?_
    repeat (first | refine nx ?_ | (refine z3 fun K hK=>?_;simp only [go_sem];apply hK;clear hK K))
    exact ⟨trivial,.inl (by rw [he,minRows,List.length_map])⟩
  ·have hb1:decide (m0 + (j:Int)≤min most x.now)=false:=by simpa using h1
   have he:j=L.length:=by
    refine z139 ?_ hj
    rw [hd]
    cases hf:(top - m0 + 1).toNat - j with
    | zero=>rfl
    | succ f=>rw [staysF,if_neg (fun hc=>h1 (by rw [← htop];exact hc.1))]
   refine z67 hG [] 25 (by kernel_rfl) (by kernel_rfl) (by kernel_rfl) (by decide) fun K hK=>?_
   simp only [go_sem,hc9,hb1]
   refine ⟨by kernel_rfl,?_⟩
   refine hK _ _ ?_
   clear hK K
   refine z6 rfl ?_
   repeat (first | refine nx ?_ | (refine z3 fun K hK=>?_;simp only [go_sem];apply hK;clear hK K))
   exact ⟨trivial,.inl (by rw [he,minRows,List.length_map])⟩
end Go.Ab
namespace Go.Ab
open Go.RowKit Go.Proofs
set_option maxHeartbeats 4000000
set_option maxRecDepth 20000
attribute [local irreducible] WalkL Walk
def walksF (cl:List Clue):Nat→Int→List (Int × Bool)
 | 0,_=>[]
 | f + 1,m=>(m,onB8 cl m)::if onB8 cl m=true then walksF cl f (m + 1) else []
def walksL (x:Missed) (leave:Int):List (Int × Bool):=walksF x.clues (x.now - leave).toNat (leave + 1)
def wkRows (l:List (Int × Bool)):List (List DV):=l.map fun m=>[.i m.1,.bool m.2]
theorem z916 {l:List (Int × Bool)} {j:Nat} {m:Int × Bool} (h:l[j]?=some m):(wkRows l)[j]?=some [.i m.1,.bool m.2]:=by simp [wkRows,h]
theorem z1226 (n:Net) (x:Missed) (leave:Int) (hm:0≤leave∧leave≤2 ^ 40) (hn:x.now≤2 ^ 40) (hl:x.clues.length<2 ^ 62) :
  IterB Tryd.prog 103 (fun b=>[.ptr [.i leave] 0,.ptr [.raw b 0] 0]) ((trkB n x).map some) (wkRows (walksL x leave)):=by
 refine z458 40 Tryd.call103 Tryd.func103 rfl rfl fun l J B pb hS hG hP=>?_
 have hw0:IntKind.i64.wrap (leave + 1)=leave + 1 + ((0:Nat):Int):=by rw [z11 (by omega)];omega
 simp only [go_sem,St.start,Tryd.ntmps103]
 repeat (first | refine nx ?_ | (refine z3 fun K hK=>?_;simp only [go_sem,hw0];apply hK;clear hK K))
 obtain ⟨L,hL⟩:∃ L,L=walksL x leave:=⟨_,rfl⟩
 rw [← hL]
 have hL0:L=walksF x.clues (x.now - leave).toNat (leave + 1):=by rw [hL,walksL]
 refine z62 (fun (j:Nat)=>[(4,.d (.i (leave + 1 + j)))]) (fun _=>[]) (fun k j=>k=some j∧j≤L.length∧L.drop j=walksF x.clues ((x.now - leave).toNat - j) (leave + 1 + j)) (fun j=>(x.now - leave).toNat + 1 - j) 0 ?_ ⟨rfl,Nat.zero_le _,by simpa using hL0⟩ ?_
 ·simp only [go_sem]
  refine weA ?_ ?_ <;> simp
 ·rintro k j ⟨rfl,hj,hd⟩
  have hc9:(huntC n x)[9]?=some (.i x.now):=rfl
  have h77:=z1302 n x (leave + 1 + j) hl
  have tr:trkB n x=[.ptr (huntC n x) 0]:=rfl
  simp only [go_sem]
  repeat refine nx ?_
  refine z143 hS hG hP fun K hK=>?_
  simp only [go_sem,tr,List.map_cons,List.map_nil,hc9]
  refine hK _ _ ?_
  clear hK K
  refine z5 rfl (fun hb=>?_) (fun hb=>?_)
  ·have hb1:leave + 1 + (j:Int)≤x.now:=by simpa using hb
   have hf1:(x.now - leave).toNat - j=((x.now - leave).toNat - (j + 1)) + 1:=by omega
   have hw:IntKind.i64.wrap (leave + 1 + (j:Int) + 1)=leave + 1 + ((j + 1:Nat):Int):=by rw [z11 (by omega)];omega
   rw [hf1,walksF] at hd
   obtain ⟨hg,hd2,hlt⟩:=z230 hd
   repeat refine nx ?_
   refine z143 hS hG hP fun K hK=>?_
   simp only [go_sem,tr,List.map_cons,List.map_nil]
   refine ⟨_,.lent (hf:=h77) (hd:=rfl) (hr:=rfl),?_⟩
   simp only [go_sem]
   refine hK _ _ ?_
   clear hK K
   repeat refine nx ?_
   refine z143 hS hG hP fun K hK=>?_
   simp only [go_sem,tr,List.map_cons,List.map_nil]
   refine ⟨rfl,j,[.i (leave + 1 + j),.bool (onB8 x.clues (leave + 1 + j))],rfl,rfl,by rw [← hL];exact z916 hg,?_,?_⟩
   ·by_cases ho:onB8 x.clues (leave + 1 + j)=true
    ·rw [if_pos ho] at hd2
     simp only [go_sem,ho]
     refine hK _ _ ?_
     clear hK K
     refine z6 rfl ?_
     repeat (first | refine nx ?_ | (refine z3 fun K hK=>?_;simp only [go_sem,hw];apply hK;clear hK K))
     refine ⟨j + 1,?_,⟨rfl,hlt,by rw [hd2];congr 1;omega⟩,by omega⟩
     refine weA ?_ ?_ <;> simp
    ·rw [if_neg ho] at hd2
     have ho:onB8 x.clues (leave + 1 + j)=false:=by simpa using ho
     have he:=z139 hd2 hlt
     simp only [go_sem,ho]
     refine hK _ _ ?_
     clear hK K
     refine z9 rfl ?_
     repeat (first | refine nx ?_ | (refine z3 fun K hK=>?_;simp only [go_sem];apply hK;clear hK K))
     exact ⟨trivial,.inl (by rw [he,wkRows,List.length_map])⟩
   ·simp only [go_sem]
    refine hK _ _ ?_
    clear hK K
    refine z9 rfl ?_
    repeat (first | refine nx ?_ | (refine z3 fun K hK=>?_;simp only [go_sem];apply hK;clear hK K))
    exact ⟨trivial,.inr rfl⟩
  ·have he:j=L.length:=by
    have hb1:¬ leave + 1 + (j:Int)≤x.now:=by simpa using hb
    refine z139 ?_ hj
    rw [hd,show (x.now - leave).toNat - j=0 by omega]
    rfl
   repeat (first | refine nx ?_ | (refine z3 fun K hK=>?_;simp only [go_sem];apply hK;clear hK K))
   exact ⟨trivial,.inl (by rw [he,wkRows,List.length_map])⟩
end Go.Ab
namespace Go.Ab
open Go.RowKit Go.Proofs
set_option maxHeartbeats 4000000
set_option maxRecDepth 20000
attribute [local irreducible] WalkL Walk
structure Arv where
 pl:Int
 mi:Int
 fp:Int
 fm:Int
 pa:Int
 lv:Int
def Arv.spot (a:Arv):List DV:=[.i a.pl,.i a.mi]
def Arv.leg (a:Arv):List DV:=[.i a.fp,.i a.fm,.i a.pa,.i a.lv]
def keyS (p m:Int):MK:=.s [(.i64,p),(.i64,m)]
def entsA:List Arv→Nat→List (MK × DV × Nat)
 | [],_=>[]
 | a::l,j=>(keyS a.pl a.mi,.agg a.leg,j)::entsA l (j + 1)
def arvRows (A:List Arv):List (List DV):=A.map Arv.spot
def legsB (A:List Arv):Blk:=.mp (some [.i64,.i64]) (entsA A 0) A.length
def trkM (h:DV) (A:List Arv):List Blk:=[.box [.d h,.mp 1,.own 2],legsB A,.arr 114 2 (arvRows A)]
def sameS (a b:Arv):Bool:=b.pl == a.pl && b.mi == a.mi
def arriveA (cl:List Clue) (A:List Arv) (a:Arv):List Arv:=if A.any (sameS a) || !atB cl a.pl a.mi then A else A++[a]
theorem z471 (a:Arv):∀ (l:List Arv) (j:Nat),entsA (l++[a]) j=entsA l j++[(keyS a.pl a.mi,.agg a.leg,j + l.length)]
 | [],j=>by simp [entsA]
 | x::l,j=>by simp [entsA,z471 a l];omega
theorem z123 {a b c d:Int}:keyS a b=keyS c d↔a=c∧b=d:=by simp [keyS]
theorem z472 (a:Arv):∀ (l:List Arv) (j i:Nat),l.any (sameS a)=false→findE (entsA l j) (keyS a.pl a.mi) i=none
 | [],_,_,_=>rfl
 | b::l,j,i,h=>by
  simp only [List.any_cons,Bool.or_eq_false_iff] at h
  rw [entsA,findE,if_neg (by rw [z123];intro hc;simp [sameS,hc.1,hc.2] at h)]
  exact z472 a l _ _ h.2
theorem z470 (a:Arv):∀ (l:List Arv) (j i:Nat),l.any (sameS a)=true→∃ q b s,b ∈ l∧sameS a b=true∧findE (entsA l j) (keyS a.pl a.mi) i=some (q,.agg b.leg,s)
 | [],_,_,h=>by simp at h
 | b::l,j,i,h=>by
  by_cases hb:sameS a b=true
  ·refine ⟨i,b,j,by simp,hb,?_⟩
   rw [entsA,findE,if_pos (by rw [z123];simp [sameS] at hb;exact ⟨hb.1.symm,hb.2.symm⟩)]
  ·have hb:sameS a b=false:=by simpa using hb
   simp only [List.any_cons,hb,Bool.false_or] at h
   obtain ⟨q,c,s,h1,h2,h3⟩:=z470 a l (j + 1) (i + 1) h
   refine ⟨q,c,s,by simp [h1],h2,?_⟩
   rw [entsA,findE,if_neg (by rw [z123];intro hc;simp [sameS,hc.1,hc.2] at hb)]
   exact h3
theorem z1326 (T:List DV) (place m0 most:Int):Fn Tryd.prog 84 [.ptr T 0,.agg [.i place,.i m0],.i most] (.fn 102 [.ptr [.i place,.i m0] 0,.ptr [.i most] 0,.ptr [.ptr T 0] 0]):=by
 refine z10 8 Tryd.call84 Tryd.func84 rfl (by decide) fun J=>?_
 simp only [go_sem,St.start,Tryd.ntmps84,Tryd.results84]
 repeat (first | refine nx ?_ | (refine z3 fun K hK=>?_;simp only [go_sem];apply hK;clear hK K))
 simp only [go_sem]
theorem z1279 (h:DV) (A:List Arv) (place m0 most:Int):FnG Tryd.prog 84 (trkM h A) [0] [.box 0 0,.d (.agg [.i place,.i m0]),.d (.i most)] (.fn 102 [.box 3 0,.box 4 0,.box 5 0]) (trkM h A++[.box [.d (.i place),.d (.i m0)],.box [.d (.i most)],.box [.box 0 0]]):=by
 simp only [trkM,legsB]
 refine z40 8 Tryd.call84 Tryd.func84 rfl (by decide) [4,5,3] [(0,0)] (by simp only [List.length_cons,List.length_nil];decide) (by kernel_rfl) fun J=>?_
 simp only [go_sem,St.startG,Tryd.ntmps84,Tryd.results84,List.map_cons,List.map_nil,List.range_succ,  ]
 repeat (first | refine nx ?_ | (refine z3 fun K hK=>?_;simp only [go_sem];apply hK;clear hK K))
 simp only [go_sem,List.cons_append,List.nil_append]
theorem z1278 (h:DV) (A:List Arv) (leave:Int):FnG Tryd.prog 85 (trkM h A) [0] [.box 0 0,.d (.i leave)] (.fn 103 [.box 3 0,.box 4 0]) (trkM h A++[.box [.d (.i leave)],.box [.box 0 0]]):=by
 simp only [trkM,legsB]
 refine z40 6 Tryd.call85 Tryd.func85 rfl (by decide) [3,2] [(0,0)] (by simp only [List.length_cons,List.length_nil];decide) (by kernel_rfl) fun J=>?_
 simp only [go_sem,St.startG,Tryd.ntmps85,Tryd.results85,List.map_cons,List.map_nil,List.range_succ,  ]
 repeat (first | refine nx ?_ | (refine z3 fun K hK=>?_;simp only [go_sem];apply hK;clear hK K))
 simp only [go_sem,List.cons_append,List.nil_append]
theorem z1327 (n:Net) (x:Missed) (A:List Arv) (a:Arv) (hp:0≤a.pl) (hl:x.clues.length<2 ^ 62) (hA:A.length<2 ^ 30) :
  FnG Tryd.prog 83 (trkM (.ptr (huntC n x) 0) A) [0] [.box 0 0,.d (.agg a.spot),.d (.agg a.leg)] (.tup []) (trkM (.ptr (huntC n x) 0) (arriveA x.clues A a)):=by
 have h74:=z1204 n x a.pl a.mi hp hl
 simp only [trkM,legsB,Arv.spot,Arv.leg]
 by_cases hk:A.any (sameS a)=true
 ·obtain ⟨q,b,s,_,_,hf⟩:=z470 a A 0 0 hk
  rw [keyS] at hf
  have e:arriveA x.clues A a=A:=by rw [arriveA,hk];rfl
  rw [e]
  refine z40 46 Tryd.call83 Tryd.func83 rfl (by decide) [] [(0,0)] (by simp only [List.length_cons,List.length_nil];decide) (by kernel_rfl) fun J=>?_
  simp only [go_sem,St.startG,Tryd.ntmps83,Tryd.results83,List.map_cons,List.map_nil,List.range_succ,  ]
  repeat (first | refine nx ?_ | (refine z3 fun K hK=>?_;simp only [go_sem,hf,Arv.leg];apply hK;clear hK K) | (refine z8 (by kernel_rfl) (by kernel_rfl) fun K hK=>?_;simp only [go_sem,hf,Arv.leg];refine ⟨by kernel_rfl,hK _ ?_⟩;clear hK K))
  refine z6 rfl ?_
  repeat (first | refine nx ?_ | (refine z3 fun K hK=>?_;simp only [go_sem];apply hK;clear hK K))
  simp only [go_sem]
 ·have hk:A.any (sameS a)=false:=by simpa using hk
  have hf:=z472 a A 0 0 hk
  rw [keyS] at hf
  by_cases ha:atB x.clues a.pl a.mi=true
  ·have e:arriveA x.clues A a=A++[a]:=by rw [arriveA,hk,ha];rfl
   rw [e]
   refine z40 46 Tryd.call83 Tryd.func83 rfl (by decide) [] [(0,0)] (by simp only [List.length_cons,List.length_nil];decide) (by kernel_rfl) fun J=>?_
   simp only [go_sem,St.startG,Tryd.ntmps83,Tryd.results83,List.map_cons,List.map_nil,List.range_succ,  ]
   repeat (first | refine nx ?_ | (refine z3 fun K hK=>?_;simp only [go_sem,hf,ha];(repeat (first | (refine ⟨_,.lent (hf:=h74) (hd:=rfl) (hr:=rfl),?_⟩;simp only [go_sem,hf,ha]) | (refine ⟨_,.given (hf:=h74) (hd:=rfl) (ha:=rfl),?_⟩;simp only [go_sem,hf,ha])));apply hK;clear hK K) | (refine z8 (by kernel_rfl) (by kernel_rfl) fun K hK=>?_;simp only [go_sem,hf,ha];(repeat (first | (refine ⟨_,.fn (hf:=h74) (hd:=rfl) (hr:=.inl rfl),?_⟩;simp only [go_sem,hf,ha])));refine ⟨by kernel_rfl,hK _ ?_⟩;clear hK K))
   refine z9 rfl ?_
   refine z23 ?_
   refine z168 6 (by kernel_rfl) (by kernel_rfl) (by kernel_rfl) (by decide) fun K hK=>?_
   simp only [go_sem,hf]
   refine ⟨by kernel_rfl,?_⟩
   refine hK _ _ ?_
   clear hK K
   have hrl:(arvRows A).length≤549755813887:=by rw [arvRows,List.length_map];omega
   have hpush:=z471 a A 0
   refine z572 (by kernel_rfl) (by kernel_rfl) fun K hK=>?_
   simp only [go_sem,hrl]
   refine ⟨by kernel_rfl,hK _ ?_⟩
   clear hK K
   repeat (first | refine nx ?_ | (refine z3 fun K hK=>?_;simp only [go_sem];apply hK;clear hK K))
   simp only [go_sem,hpush,arvRows,List.map_append,List.map_cons,List.map_nil,Arv.spot,Arv.leg,keyS,List.length_append,List.length_cons,List.length_nil,Nat.zero_add]
  ·have ha:atB x.clues a.pl a.mi=false:=by simpa using ha
   have e:arriveA x.clues A a=A:=by rw [arriveA,hk,ha];rfl
   rw [e]
   refine z40 46 Tryd.call83 Tryd.func83 rfl (by decide) [] [(0,0)] (by simp only [List.length_cons,List.length_nil];decide) (by kernel_rfl) fun J=>?_
   simp only [go_sem,St.startG,Tryd.ntmps83,Tryd.results83,List.map_cons,List.map_nil,List.range_succ,  ]
   repeat (first | refine nx ?_ | (refine z3 fun K hK=>?_;simp only [go_sem,hf,ha];(repeat (first | (refine ⟨_,.lent (hf:=h74) (hd:=rfl) (hr:=rfl),?_⟩;simp only [go_sem,hf,ha]) | (refine ⟨_,.given (hf:=h74) (hd:=rfl) (ha:=rfl),?_⟩;simp only [go_sem,hf,ha])));apply hK;clear hK K) | (refine z8 (by kernel_rfl) (by kernel_rfl) fun K hK=>?_;simp only [go_sem,hf,ha];(repeat (first | (refine ⟨_,.fn (hf:=h74) (hd:=rfl) (hr:=.inl rfl),?_⟩;simp only [go_sem,hf,ha])));refine ⟨by kernel_rfl,hK _ ?_⟩;clear hK K))
   refine z6 rfl ?_
   repeat (first | refine nx ?_ | (refine z3 fun K hK=>?_;simp only [go_sem];apply hK;clear hK K))
   simp only [go_sem]
end Go.Ab
namespace Go.Ab
open Go.RowKit Go.Proofs
set_option maxHeartbeats 4000000
set_option maxRecDepth 20000
attribute [local irreducible] WalkL Walk
structure Cnt where
 pl:Int
 mi:Int
 c:Int
def entsL:List Cnt→Nat→List (MK × DV × Nat)
 | [],_=>[]
 | a::l,j=>(keyS a.pl a.mi,.i a.c,j)::entsL l (j + 1)
def leftB (L:List Cnt):Blk:=.mp (some [.i64,.i64]) (entsL L 0) L.length
def cntL:List Cnt→Int→Int→Int
 | [],_,_=>0
 | a::l,p,m=>if a.pl=p∧a.mi=m then a.c else cntL l p m
def bumpL:List Cnt→Int→Int→List Cnt
 | [],p,m=>[⟨p,m,wr (0 + 1)⟩]
 | a::l,p,m=>if a.pl=p∧a.mi=m then ⟨a.pl,a.mi,wr (a.c + 1)⟩::l else a::bumpL l p m
def hasL (l:List Cnt) (p m:Int):Bool:=l.any fun a=>decide (a.pl=p∧a.mi=m)
theorem z262 {p m:Int}:∀ (l:List Cnt) (j i:Nat),hasL l p m=true→∃ q,findE (entsL l j) (keyS p m) i=some (i + q,.i (cntL l p m),j + q) ∧
  setBorn (entsL l j) ((j + q:Nat):Int) (.i (wr (cntL l p m + 1)))=some (entsL (bumpL l p m) j)∧(bumpL l p m).length=l.length
 | [],_,_,h=>by simp [hasL] at h
 | a::l,j,i,h=>by
  by_cases ha:a.pl=p∧a.mi=m
  ·refine ⟨0,?_,?_,?_⟩
   ·rw [entsL,findE,if_pos (by rw [z123];exact ⟨ha.1.symm,ha.2.symm⟩),cntL,if_pos ha];rfl
   ·rw [entsL,setBorn,if_pos (by simp),bumpL,if_pos ha,cntL,if_pos ha];rfl
   ·rw [bumpL,if_pos ha];rfl
  ·have h':hasL l p m=true:=by simpa [hasL,ha] using h
   obtain ⟨q,h1,h2,h3⟩:=z262 l (j + 1) (i + 1) h'
   refine ⟨q + 1,?_,?_,?_⟩
   ·rw [entsL,findE,if_neg (by rw [z123];exact fun hc=>ha ⟨hc.1.symm,hc.2.symm⟩),h1,cntL,if_neg ha,show i + 1 + q=i + (q + 1) by omega,show j + 1 + q=j + (q + 1) by omega]
   ·rw [entsL,setBorn,if_neg (by simp;omega),bumpL,if_neg ha,cntL,if_neg ha]
    rw [show ((j + (q + 1):Nat):Int)=((j + 1 + q:Nat):Int) by omega,h2]
    rfl
   ·rw [bumpL,if_neg ha];simp [h3]
theorem z279 {d:DV} {k:MK} {z:DV}:∀ (l:List Cnt) (j:Nat),setBorn (entsL l j++[(k,z,j + l.length)]) ((j + l.length:Nat):Int) d=some (entsL l j++[(k,d,j + l.length)])
 | [],j=>by simp [entsL,setBorn]
 | a::l,j=>by
  rw [entsL,List.cons_append,setBorn,if_neg (by simp only [List.length_cons];omega),List.length_cons]
  have:=z279 (d:=d) (k:=k) (z:=z) l (j + 1)
  rw [show j + 1 + l.length=j + (l.length + 1) by omega] at this
  rw [this]
  rfl
theorem z467 {p m:Int}:∀ (l:List Cnt) (j i:Nat),hasL l p m=false→findE (entsL l j) (keyS p m) i=none∧cntL l p m=0 ∧
  entsL (bumpL l p m) j=entsL l j++[(keyS p m,.i (wr (0 + 1)),j + l.length)]∧(bumpL l p m).length=l.length + 1
 | [],j,_,_=>by simp [entsL,findE,cntL,bumpL]
 | a::l,j,i,h=>by
  have ha:¬ (a.pl=p∧a.mi=m):=fun hc=>by simp [hasL,hc] at h
  have h':hasL l p m=false:=by
   rw [hasL,List.any_cons,Bool.or_eq_false_iff] at h
   exact h.2
  obtain ⟨h1,h2,h3,h4⟩:=z467 l (j + 1) (i + 1) h'
  refine ⟨?_,?_,?_,?_⟩
  ·rw [entsL,findE,if_neg (by rw [z123];exact fun hc=>ha ⟨hc.1.symm,hc.2.symm⟩),h1]
  ·rw [cntL,if_neg ha,h2]
  ·rw [bumpL,if_neg ha,entsL,h3,entsL,List.length_cons,List.cons_append]
   congr 3
   congr 2
   omega
  ·rw [bumpL,if_neg ha];simp [h4]
theorem z353 {p m:Int}:∀ (l:List Cnt),cntL (bumpL l p m) p m=wr (cntL l p m + 1)
 | []=>by simp [bumpL,cntL]
 | a::l=>by
  by_cases ha:a.pl=p∧a.mi=m
  ·rw [bumpL,if_pos ha,cntL,if_pos ha,cntL,if_pos ha]
  ·rw [bumpL,if_neg ha,cntL,if_neg ha,cntL,if_neg ha,z353 l]
theorem z697 {p m:Int}:∀ (l:List Cnt),hasL (bumpL l p m) p m=true
 | []=>by simp [bumpL,hasL]
 | a::l=>by
  by_cases ha:a.pl=p∧a.mi=m
  ·rw [bumpL,if_pos ha];simp [hasL,ha]
  ·rw [bumpL,if_neg ha]
   have:=z697 (p:=p) (m:=m) l
   simp [hasL] at this ⊢
   exact .inr this
def walkA (cl:List Clue) (lo hi:Int) (mk:Int→Arv):List (Int × Bool)→List Arv→List Arv
 | [],A=>A
 | w::ws,A=>if w.1 > hi then A else walkA cl lo hi mk ws (if w.1 ≥ lo then arriveA cl A (mk w.1) else A)
def pathA (n:Net) (x:Missed) (p m leave:Int) (A:List Arv) (k:Nat):List Arv:=match n.paths[k]? with
 | some y=>if y.frm=p∧y.grade≤x.party.grade then walkA x.clues (wr (leave + (spanW y x.party).lo)) (wr (leave + (spanW y x.party).hi)) (fun t=>⟨y.to,t,p,m,k,leave⟩) (walksL x leave) A else A
 | none=>A
def pathsA (n:Net) (x:Missed) (p m leave:Int) (k:Nat) (A:List Arv):List Arv:=(List.range k).foldl (pathA n x p m leave) A
def leaveA (n:Net) (x:Missed) (p m:Int) (a:List Arv × List Cnt) (leave:Int):List Arv × List Cnt :=
 if cntL (bumpL a.2 p leave) p leave > 1 then (a.1,bumpL a.2 p leave) else (pathsA n x p m leave n.paths.length a.1,bumpL a.2 p leave)
def spotA (n:Net) (x:Missed) (s:Arv) (a:List Arv × List Cnt):List Arv × List Cnt:=(staysL x s.pl s.mi (wr (s.mi + x.rest))).foldl (leaveA n x s.pl s.mi) a
def followF (n:Net) (x:Missed):Nat→Nat→List Arv × List Cnt→List Arv × List Cnt
 | 0,_,a=>a
 | f + 1,i,a=>match a.1[i]? with
  | some s=>followF n x f (i + 1) (spotA n x s a)
  | none=>a
def startA (x:Missed):List Arv:=arriveA x.clues [] ⟨x.place,x.start,0,0,-1,0⟩
end Go.Ab
namespace Go.Ab
open Go.RowKit Go.Proofs
set_option maxHeartbeats 16000000
set_option maxRecDepth 20000
attribute [local irreducible] WalkL Walk
structure Hunted (n:Net) (x:Missed):Prop where
 net:n.Good
 party:x.party.Good
 place:0≤x.place∧x.place<n.places
 start:0≤x.start∧x.start≤x.now
 now:x.now≤2880
 rest:0≤x.rest∧x.rest≤600
 clues:x.clues.length<2 ^ 30
def goodA (n:Net) (x:Missed) (A:List Arv):Prop:=(∀ a ∈ A,(0≤a.pl∧a.pl<n.places)∧x.start≤a.mi∧a.mi≤x.now)∧(A.map fun a=>(a.pl,a.mi)).Nodup
def boundN (n:Net) (x:Missed):Nat:=n.places.toNat * (x.now - x.start + 1).toNat
theorem z117 {n:Net} {x:Missed} {A:List Arv} (h:goodA n x A):A.length≤boundN n x:=by
 have h1:(A.map fun a=>(a.pl,a.mi)).length≤((List.range n.places.toNat).flatMap fun (i:Nat)=>(List.range (x.now - x.start + 1).toNat).map fun (j:Nat)=>((i:Int),x.start + (j:Int))).length:=by
  refine List.Nodup.length_le_of_subset h.2 fun q hq=>?_
  obtain ⟨a,ha,rfl⟩:=List.mem_map.1 hq
  obtain ⟨⟨h1,h2⟩,h3,h4⟩:=h.1 a ha
  refine List.mem_flatMap.2 ⟨a.pl.toNat,List.mem_range.2 (by omega),List.mem_map.2 ⟨(a.mi - x.start).toNat,List.mem_range.2 (by omega),?_⟩⟩
  simp;omega
 simp only [List.length_map,List.length_flatMap,List.length_range] at h1
 have:(List.map (fun _=>(x.now - x.start + 1).toNat) (List.range n.places.toNat)).sum=n.places.toNat * (x.now - x.start + 1).toNat:=by
  rw [List.map_const',List.sum_replicate_nat,List.length_range]
 rw [boundN];omega
theorem z182 {n:Net} {x:Missed} (h:Hunted n x):boundN n x≤40000:=by
 have h1:=h.net.places
 have h2:=h.start
 have h3:=h.now
 rw [boundN]
 have a1:n.places.toNat≤12:=by omega
 have a2:(x.now - x.start + 1).toNat≤2881:=by omega
 have:=Nat.mul_le_mul a1 a2
 omega
theorem z70 {n:Net} {x:Missed} {A:List Arv} {a:Arv} (h:goodA n x A) (ha:(0≤a.pl∧a.pl<n.places)∧x.start≤a.mi∧a.mi≤x.now):goodA n x (arriveA x.clues A a):=by
 rw [arriveA]
 split
 ·exact h
 ·rename_i hc
  have hc:A.any (sameS a)=false:=by
   rw [Bool.or_eq_true] at hc
   simpa using fun hh=>hc (.inl hh)
  refine ⟨fun b hb=>?_,?_⟩
  ·rcases List.mem_append.1 hb with hb | hb
   ·exact h.1 b hb
   ·simp at hb;subst hb;exact ha
  ·rw [List.map_append,List.nodup_append]
   refine ⟨h.2,by simp,fun u hu v hv e=>?_⟩
   simp at hv
   subst hv;subst e
   obtain ⟨b,hb,he⟩:=List.mem_map.1 hu
   have:=List.any_eq_false.1 hc b hb
   simp [sameS] at this
   simp at he
   exact this he.1 he.2
theorem z165 {cl:List Clue}:∀ {f:Nat} {m:Int} {w:Int × Bool},w ∈ walksF cl f m→m≤w.1∧w.1<m + f
 | 0,m,w,h=>by simp [walksF] at h
 | f + 1,m,w,h=>by
  rw [walksF] at h
  rcases List.mem_cons.1 h with rfl | h
  ·exact ⟨Int.le_refl _,by simp;omega⟩
  ·split at h
   ·have:=z165 h;omega
   ·simp at h
theorem z269 {x:Missed} {leave:Int} {w:Int × Bool} (h:w ∈ walksL x leave):leave + 1≤w.1∧w.1≤x.now:=by
 have:=z165 h
 omega
theorem z277 {cl:List Clue} {p top:Int}:∀ {f:Nat} {m w:Int},w ∈ staysF cl p top f m→m≤w∧w≤top
 | 0,m,w,h=>by simp [staysF] at h
 | f + 1,m,w,h=>by
  rw [staysF] at h
  split at h
  ·rename_i hc
   rcases List.mem_cons.1 h with rfl | h
   ·exact ⟨Int.le_refl _,hc.1⟩
   ·have:=z277 h;omega
  ·simp at h
theorem z276 {x:Missed} {p m most w:Int} (h:w ∈ staysL x p m most):m≤w∧w≤most∧w≤x.now:=by
 have:=z277 h
 omega
end Go.Ab
namespace Go.Ab
open Go.RowKit Go.Proofs
set_option maxHeartbeats 16000000
set_option maxRecDepth 20000
attribute [local irreducible] WalkL Walk
def trkL (h:DV) (A:List Arv):List Blk:=[.box [.d h,.mp 1,.own 2],.mp (some [.i64,.i64]) (entsA A 0) A.length,.arr 114 2 (arvRows A)]
theorem z357 (A:List Arv):(arvRows A).length=A.length:=by simp [arvRows]
theorem z358 {A:List Arv} {i:Nat} {s:Arv} (h:A[i]?=some s):(arvRows A)[i]?=some [.i s.pl,.i s.mi]:=by simp [arvRows,h,Arv.spot]
theorem z1077 (es:List (MK × DV × Nat)):mkE (es.map fun e=>(e.1,e.2.2)) (es.map fun e=>e.2.1)=es:=by
 induction es with
 | nil=>rfl
 | cons e es ih=>simp only [mkE,List.map_cons,List.zipWith_cons_cons] at ih ⊢;rw [ih]
theorem z434 (n:Net) (p:Party) {k:Nat} {y:Path} (hy:n.paths[k]?=some y):∃ ks vs c,timesD n p=.mp none ks vs c ∧
  ((y.grade≤p.grade∧∃ q b,findE (mkE ks vs) (.i k) 0=some (q,.agg (spanW y p).row,b))∨(¬ y.grade≤p.grade∧findE (mkE ks vs) (.i k) 0=none)):=by
 refine ⟨_,_,_,rfl,?_⟩
 rw [z1077]
 have hlt:=(List.getElem?_eq_some_iff.1 hy).1
 by_cases hg:y.grade≤p.grade
 ·obtain ⟨q,b,h⟩:=z468 p (w:=(k,y)) (canL n p) 0 0 (z733 hy hg hlt) (fun v hv e=>by
   obtain ⟨_,h2,_⟩:=z192 hv
   have e:v.1=k:=e
   rw [e,hy] at h2
   cases v
   simp at e h2
   rw [e,h2])
  exact .inl ⟨hg,q,b,h⟩
 ·refine .inr ⟨hg,z263 p _ 0 0 fun w hw e=>hg ?_⟩
  obtain ⟨_,h2,h3⟩:=z192 hw
  have:w.1=k:=by omega
  rw [this,hy] at h2
  cases h2
  exact h3
theorem z350 {k:MK} {d:DV} {b:Nat}:∀ (es:List (MK × DV × Nat)) (i:Nat),findE es k i=none→findE (es++[(k,d,b)]) k i=some (i + es.length,d,b)
 | [],i,_=>by simp [findE]
 | e::es,i,h=>by
  rw [findE] at h
  split at h
  ·cases h
  ·rename_i hk
   rw [List.cons_append,findE,if_neg hk,z350 es (i + 1) h]
   congr 2
   simp;omega
theorem z885 (cl:List Clue) (A:List Arv) (a:Arv):A.length≤(arriveA cl A a).length:=by
 rw [arriveA];split <;> simp
theorem z574 (cl:List Clue) (lo hi:Int) (mk:Int→Arv):∀ (ws:List (Int × Bool)) (A:List Arv),A.length≤(walkA cl lo hi mk ws A).length
 | [],A=>Nat.le_refl _
 | w::ws,A=>by
  rw [walkA];split
  ·exact Nat.le_refl _
  ·refine Nat.le_trans ?_ (z574 cl lo hi mk ws _)
   split
   ·exact z885 _ _ _
   ·exact Nat.le_refl _
theorem z1066 (n:Net) (x:Missed) (p m leave:Int) (A:List Arv) (k:Nat):A.length≤(pathA n x p m leave A k).length:=by
 rw [pathA];split
 ·split
  ·exact z574 _ _ _ _ _ _
  ·exact Nat.le_refl _
 ·exact Nat.le_refl _
theorem z714 {α β:Type} (f:List α→β→List α) (h:∀ a b,a.length≤(f a b).length):∀ (l:List β) (a:List α),a.length≤(l.foldl f a).length
 | [],a=>Nat.le_refl _
 | b::l,a=>Nat.le_trans (h a b) (z714 f h l _)
theorem z997 (n:Net) (x:Missed) (p m:Int) (a:List Arv × List Cnt) (lv:Int):a.1.length≤(leaveA n x p m a lv).1.length:=by
 rw [leaveA];split
 ·exact Nat.le_refl _
 ·exact z714 _ (fun A k=>z1066 n x p m lv A k) _ _
theorem z464 (n:Net) (x:Missed) (p m:Int):∀ (l:List Int) (a:List Arv × List Cnt),a.1.length≤(l.foldl (leaveA n x p m) a).1.length
 | [],a=>Nat.le_refl _
 | b::l,a=>Nat.le_trans (z997 n x p m a b) (z464 n x p m l _)
theorem z1049 (n:Net) (x:Missed) (s:Arv) (a:List Arv × List Cnt):a.1.length≤(spotA n x s a).1.length:=z464 _ _ _ _ _ _
theorem z1334 (n:Net) (x:Missed) (hx:Hunted n x):FnG Tryd.prog 49 [] [] [.d (.ptr (huntC n x) 0)] (.box 0 0) (trkM (.ptr (huntC n x) 0) (followF n x (boundN n x + 1) 0 (startA x,[])).1):=by
 have c7:(huntC n x)[7]?=some (.i x.place):=rfl
 have c8:(huntC n x)[8]?=some (.i x.start):=rfl
 have c10:(huntC n x)[10]?=some (.i x.rest):=rfl
 have c1:(huntC n x)[1]?=some (.sl (n.paths.map Path.row)):=rfl
 have h63:FnG Tryd.prog 83 [.box [.d (.ptr (huntC n x) 0),.mp 1,.own 2],.mp (some [.i64,.i64]) [] 0,.arr 114 2 []] [0] [.box 0 0,.d (.agg [.i x.place,.i x.start]),.d (.agg [.i 0,.i 0,.i (-1),.i 0])] (.tup [])
   [.box [.d (.ptr (huntC n x) 0),.mp 1,.own 2],.mp (some [.i64,.i64]) (entsA (startA x) 0) (startA x).length,.arr 114 2 (arvRows (startA x))] :=
  z1327 n x [] ⟨x.place,x.start,0,0,-1,0⟩ hx.place.1 (by have:=hx.clues;omega) (by simp)
 have hN:=z182 hx
 have hst:=hx.start
 have hno:=hx.now
 have hre:=hx.rest
 have hcl:=hx.clues
 have hpl:=hx.net.paths
 refine z40 160 Tryd.call49 Tryd.func49 rfl (by decide) [16,14,150] [] (by simp only [List.length_cons,List.length_nil];decide) (by kernel_rfl) fun J=>?_
 simp only [go_sem,St.startG,Tryd.ntmps49,Tryd.results49,List.map_cons,List.map_nil,List.range_succ,  ]
 repeat (first | refine nx ?_ | (refine z3 fun K hK=>?_;simp only [go_sem];apply hK;clear hK K))
 refine z433 [] [] [(16,some (.box [.d (.ptr (huntC n x) 0),.mp 14,.own 150])),(150,some (.arr 114 2 []))] ?_ ?_
 ·simp only [go_sem]
  refine z61 [150] ?_ ?_ rfl rfl <;> simp [lessT,lessM,lessB,AV.less]
 simp only [go_sem]
 refine z168 13 (by kernel_rfl) (by kernel_rfl) (by kernel_rfl) (by decide) fun K hK=>?_
 simp only [go_sem,c7,c8]
 refine ⟨by kernel_rfl,?_⟩
 refine ⟨_,.own (ns:=[16,14,150]) (news:=[]) (bads:=[14,150]) (rd:=[]) (hf:=h63) (hnd:=by decide) (hl0:=rfl) (hl1:=rfl) (hm:=by repeat (first | exact trivial | refine And.intro ?_ ?_ | rfl)) (hnew:=rfl) (hla:=rfl) (ha:=z60 (by repeat (first | exact trivial | refine And.intro ?_ ?_ | exact z78 rfl | exact z52 rfl rfl))) (hrd:=rfl) (hsh:=z213 _) (hb:=rfl) (hfl:=.inl rfl),?_⟩
 simp only [go_sem,List.map_cons,List.map_nil]
 refine hK _ _ ?_
 clear hK K
 repeat (first | refine nx ?_ | (refine z3 fun K hK=>?_;simp only [go_sem];apply hK;clear hK K))
 obtain ⟨R,hR⟩:∃ R,R=followF n x (boundN n x + 1) 0 (startA x,[]):=⟨_,rfl⟩
 rw [← hR]
 refine z13 (fun (a:Nat × List Arv × List Cnt)=>[(5,.d (.i a.1))]) (fun a=>[(14,some (.mp (some [.i64,.i64]) (entsA a.2.1 0) a.2.1.length)),(150,some (.arr 114 2 (arvRows a.2.1))),(31,some (.mp (some [.i64,.i64]) (entsL a.2.2 0) a.2.2.length))])
  (fun a=>a.1≤a.2.1.length∧goodA n x a.2.1∧R=followF n x (boundN n x + 1 - a.1) a.1 a.2) (fun a=>boundN n x + 1 - a.1) (0,startA x,[]) ?_ ⟨Nat.zero_le _,?_,hR⟩ ?_
 ·simp only [go_sem,entsL,List.length_nil]
  refine weA ?_ ?_ <;> simp
 ·exact z70 ⟨fun a ha=>(by simp at ha),by simp⟩ ⟨hx.place,Int.le_refl _,hst.2⟩
 ·rintro ⟨i,A,L⟩ ⟨hi,hgA,hRi⟩
  dsimp only at hi hgA hRi
  have hAl:=z117 hgA
  have hrl:=z357 A
  simp only [go_sem]
  repeat (first | refine nx ?_ | (refine z3 fun K hK=>?_;simp only [go_sem,hrl];apply hK;clear hK K))
  refine z5 rfl (fun hb=>?_) (fun hb=>?_)
  ·have hlt:i<A.length:=by simpa using hb
   have hw:IntKind.i64.wrap ((i:Int) + 1)=((i + 1:Nat):Int):=by rw [z11 (by omega)];simp
   obtain ⟨s,hs⟩:∃ s,A[i]?=some s:=⟨_,List.getElem?_eq_getElem hlt⟩
   have hrow:=z358 hs
   have hil:i<(arvRows A).length:=by omega
   have hgs:=hgA.1 s (List.mem_of_getElem? hs)
   have h64:FnG Tryd.prog 84 [.box [.d (.ptr (huntC n x) 0),.mp 1,.own 2],.mp (some [.i64,.i64]) (entsA A 0) A.length,.arr 114 2 (arvRows A)] [0] [.box 0 0,.d (.agg [.i s.pl,.i s.mi]),.d (.i (wr (s.mi + x.rest)))] (.fn 102 [.box 3 0,.box 4 0,.box 5 0])
    [.box [.d (.ptr (huntC n x) 0),.mp 1,.own 2],.mp (some [.i64,.i64]) (entsA A 0) A.length,.arr 114 2 (arvRows A),.box [.d (.i s.pl),.d (.i s.mi)],.box [.d (.i (wr (s.mi + x.rest)))],.box [.box 0 0]]:=z1279 _ A s.pl s.mi _
   repeat (first | refine nx ?_ | (refine z3 fun K hK=>?_;simp only [go_sem,hrow,hil];apply hK;clear hK K))
   refine z168 10 (by kernel_rfl) (by kernel_rfl) (by kernel_rfl) (by decide) fun K hK=>?_
   simp only [go_sem,c10]
   refine ⟨by kernel_rfl,?_⟩
   refine ⟨_,.own (ns:=[16,14,150]) (news:=[151,152,153]) (bads:=[14,150]) (rd:=[]) (hf:=h64) (hnd:=by decide) (hl0:=rfl) (hl1:=rfl) (hm:=by repeat (first | exact trivial | refine And.intro ?_ ?_ | rfl)) (hnew:=rfl) (hla:=rfl) (ha:=z60 (by repeat (first | exact trivial | refine And.intro ?_ ?_ | exact z78 rfl | exact z52 rfl rfl))) (hrd:=rfl) (hsh:=z213 _) (hb:=rfl) (hfl:=.inl rfl),?_⟩
   simp only [go_sem,List.map_cons,List.map_nil]
   refine hK _ _ ?_
   clear hK K
   refine z35 ?_
   have hsp:0≤s.pl:=hgs.1.1
   obtain ⟨Ls,hLs⟩:∃ Ls,Ls=staysL x s.pl s.mi (wr (s.mi + x.rest)):=⟨_,rfl⟩
   have hit:=z1227 n x s.pl s.mi (wr (s.mi + x.rest)) hsp (by omega) (by omega) (by omega)
   rw [← hLs] at hit
   refine z211 (fun _ h=>by cases h) 16 16 ((trkB n x).map some) [151,152,153] rfl hit (fun b=>rfl) (by intro row hr;obtain ⟨w,_,rfl⟩:=List.mem_map.1 hr;rfl)
    (fun _=>[(58,.undef)]) (fun (a:List Arv × List Cnt)=>[(151,none),(152,none),(153,none),(14,some (.mp (some [.i64,.i64]) (entsA a.1 0) a.1.length)),(150,some (.arr 114 2 (arvRows a.1))),(31,some (.mp (some [.i64,.i64]) (entsL a.2 0) a.2.length))])
    (fun i a=>a=(Ls.take i).foldl (leaveA n x s.pl s.mi) (A,L)∧goodA n x a.1) (fun _ _=>False) (A,L) ?_ ?_ ⟨by simp,hgA⟩ ?_ ?_ ?_ (fun _ _ h=>h.elim)
   ·exact ⟨rfl,rfl,trivial⟩
   ·simp only [go_sem]
    refine weA ?_ ?_ <;> simp
   ·intro a
    simp only [go_sem]
    exact ⟨rfl,rfl,trivial⟩
   ·rintro j ⟨A1,L1⟩ row hj ⟨hA1,hgA1⟩ l m
    dsimp only at hA1 hgA1
    obtain ⟨lv,hlv,rfl⟩:∃ lv,Ls[j]?=some lv∧row=[.i lv]:=by
     simp only [minRows,List.getElem?_map,Option.map_eq_some_iff] at hj
     obtain ⟨lv,h1,h2⟩:=hj
     exact ⟨lv,h1,h2.symm⟩
    have hlr:=z276 (hLs ▸ List.mem_of_getElem? hlv)
    have hnext:(Ls.take (j + 1)).foldl (leaveA n x s.pl s.mi) (A,L)=leaveA n x s.pl s.mi (A1,L1) lv:=by
     rw [List.take_add_one,hlv,List.foldl_append,← hA1];rfl
    simp only [go_sem]
    repeat (first | refine nx ?_ | (refine z3 fun K hK=>?_;simp only [go_sem];apply hK;clear hK K))
    intro J2 hJ2
    refine z35 ?_
    obtain ⟨c,hc⟩:∃ c,c=wr (cntL L1 s.pl lv + 1):=⟨_,rfl⟩
    obtain ⟨L2,hL2⟩:∃ L2,L2=bumpL L1 s.pl lv:=⟨_,rfl⟩
    have hcb:cntL L2 s.pl lv=c:=by rw [hL2,hc,z353]
    obtain ⟨q2,hq2,_⟩:=z262 (p:=s.pl) (m:=lv) L2 0 0 (by rw [hL2];exact z697 L1)
    rw [keyS,hcb,Nat.zero_add] at hq2
    have hc':IntKind.i64.wrap (cntL L1 s.pl lv + 1)=c:=hc.symm
    have hlv:leaveA n x s.pl s.mi (A1,L1) lv=if c > 1 then (A1,L2) else (pathsA n x s.pl s.mi lv n.paths.length A1,L2):=by
     rw [leaveA];dsimp only;rw [← hL2,hcb]
    repeat refine z23 ?_
    refine z17 [] [(31,some (.mp (some [.i64,.i64]) (entsL L2 0) L2.length))] ?_ ?_
    ·by_cases hin:hasL L1 s.pl lv=true
     ·obtain ⟨q1,hq1,hb1,hl1⟩:=z262 (p:=s.pl) (m:=lv) L1 0 0 hin
      rw [keyS,Nat.zero_add] at hq1
      rw [Nat.zero_add,← hc,← hL2] at hb1
      rw [← hL2] at hl1
      refine z273 (fun b=>[(60,bif b 0 then .undef else .mp 31),(61,bif b 1 then .undef else .box 6 0),(62,bif b 2 then .undef else .d (.i s.pl)),(63,bif b 3 then .undef else .d (.i lv)),(64,bif b 4 then .undef else .agg [.d (.i s.pl),.d (.i lv)]),
       (65,bif b 5 then .undef else .d (.i (cntL L1 s.pl lv))),(66,bif b 6 then .undef else .d (.i c)),(67,bif b 7 then .undef else .tup [.d (.i (cntL L1 s.pl lv)),.d (.i ((q1:Nat):Int))]),(68,bif b 8 then .undef else .d (.i ((q1:Nat):Int)))])
       (fun _=>[]) 9 (by kernel_rfl) (by kernel_rfl) (by kernel_rfl) (by decide) ?_ ?_ (Weak.refl _) ?_
      ·simp only [go_sem]
      ·refine ⟨?_,?_,?_,?_,?_,?_,?_,?_,?_,trivial⟩
       all_goals
        intro b hbm hdm _
        simp only [depsM,Region.binds,true_and,and_true,Nat.zero_add,Nat.reduceAdd,reduceCtorEq,forall_const] at hdm
        refine ⟨rfl,rfl,?_⟩
        cases hb7:b 7
        all_goals
         first | (exfalso;rw [hb7] at hbm;exact Bool.noConfusion hbm) | (exfalso;rw [hb7] at hdm;simp at hdm;done) | simp only [go_sem,hbm,hdm,hb7,hq1,hc']
      ·intro K hK
       simp only [go_sem,hb1]
       refine hK _ _ ?_
       clear hK K
       refine z7 ?_
       refine z4 ?_
       refine ⟨rfl,?_⟩
       simp only [go_sem,hl1]
       refine weA ?_ ?_ <;> simp
     ·have hin:hasL L1 s.pl lv=false:=by simpa using hin
      obtain ⟨hq1,hcz,hb1,hl1⟩:=z467 (p:=s.pl) (m:=lv) L1 0 0 hin
      have hsb:=z279 (d:=.i c) (k:=keyS s.pl lv) (z:=.i 0) L1 0
      have hc0:IntKind.i64.wrap (0 + 1)=c:=by rw [hc,hcz]
      rw [← hL2,show wr (0 + 1)=c from hc0] at hb1
      rw [← hb1] at hsb
      rw [← hL2] at hl1
      rw [keyS] at hq1 hsb
      simp only [Nat.zero_add] at hsb
      have hq1p:=z350 (d:=.i 0) (b:=L1.length) _ 0 hq1
      rw [Nat.zero_add] at hq1p
      refine z273 (fun b=>[(60,bif b 0 then .undef else .mp 31),(61,bif b 1 then .undef else .box 6 0),(62,bif b 2 then .undef else .d (.i s.pl)),(63,bif b 3 then .undef else .d (.i lv)),(64,bif b 4 then .undef else .agg [.d (.i s.pl),.d (.i lv)]),
       (65,bif b 5 then .undef else .d (.i 0)),(66,bif b 6 then .undef else .d (.i c)),(67,bif b 7 then .undef else .tup [.d (.i 0),.d (.i ((L1.length:Nat):Int))]),(68,bif b 8 then .undef else .d (.i ((L1.length:Nat):Int)))])
       (fun b=>[(31,bif b 7 then some (.mp (some [.i64,.i64]) (entsL L1 0) L1.length) else some (.mp (some [.i64,.i64]) (entsL L1 0++[(.s [(.i64,s.pl),(.i64,lv)],.i 0,L1.length)]) (L1.length + 1)))]) 9 (by kernel_rfl) (by kernel_rfl) (by kernel_rfl) (by decide) ?_ ?_ (Weak.refl _) ?_
      ·simp only [go_sem]
      ·refine ⟨?_,?_,?_,?_,?_,?_,?_,?_,?_,trivial⟩
       all_goals
        intro b hbm hdm _
        simp only [depsM,Region.binds,true_and,and_true,Nat.zero_add,Nat.reduceAdd,reduceCtorEq,forall_const] at hdm
        refine ⟨rfl,rfl,?_⟩
        cases hb7:b 7
        all_goals
         first | (exfalso;rw [hb7] at hbm;exact Bool.noConfusion hbm) | (exfalso;rw [hb7] at hdm;simp at hdm;done) | simp only [go_sem,hbm,hdm,hb7,hq1,hq1p,hc0]
      ·intro K hK
       simp only [go_sem,hsb]
       refine hK _ _ ?_
       clear hK K
       refine z7 ?_
       refine z4 ?_
       refine ⟨rfl,?_⟩
       simp only [go_sem,hl1]
       refine weA ?_ ?_ <;> simp
    simp only [go_sem]
    repeat (first | refine nx ?_ | (refine z3 fun K hK=>?_;simp only [go_sem,hq2];apply hK;clear hK K))
    refine z5 rfl (fun hcc=>?_) (fun hcc=>?_)
    ·have hcc':c > 1:=by simpa using hcc
     rw [if_pos hcc'] at hlv
     repeat (first | refine nx ?_ | (refine z3 fun K hK=>?_;simp only [go_sem];apply hK;clear hK K))
     refine ⟨rfl,(A1,L2),?_,by rw [hnext,hlv],hgA1⟩
     simp only [go_sem]
     refine weA ?_ ?_ <;> simp
    ·have hcc':¬ c > 1:=by simpa using hcc
     rw [if_neg hcc'] at hlv
     repeat (first | refine nx ?_ | (refine z3 fun K hK=>?_;simp only [go_sem,c1];apply hK;clear hK K))
     refine z13 (fun (a:Nat × List Arv)=>[(83,.d (.i a.1))]) (fun a=>[(14,some (.mp (some [.i64,.i64]) (entsA a.2 0) a.2.length)),(150,some (.arr 114 2 (arvRows a.2)))])
      (fun a=>a.1≤n.paths.length∧goodA n x a.2∧a.2=pathsA n x s.pl s.mi lv a.1 A1) (fun a=>n.paths.length - a.1) (0,A1) ?_ ⟨Nat.zero_le _,hgA1,rfl⟩ ?_
     ·simp only [go_sem]
      refine weA ?_ ?_ <;> simp
     ·rintro ⟨k,A2⟩ ⟨hk,hgA2,hA2⟩
      dsimp only at hk hgA2 hA2
      simp only [go_sem]
      repeat (first | refine nx ?_ | (refine z3 fun K hK=>?_;simp only [go_sem];apply hK;clear hK K))
      refine z5 rfl (fun hkb=>?_) (fun hkb=>?_)
      ·have hkl:k<n.paths.length:=by simpa using hkb
       have hkw:IntKind.i64.wrap ((k:Int) + 1)=((k + 1:Nat):Int):=by rw [z11 (by omega)];simp
       obtain ⟨y,hy⟩:∃ y,n.paths[k]?=some y:=⟨_,List.getElem?_eq_getElem hkl⟩
       obtain ⟨ks,vs,cc,hT,hlook⟩:=z434 n x.party hy
       have c2:(huntC n x)[2]?=some (.mp none ks vs cc):=by rw [← hT];rfl
       have hyg:=hx.net.path y (List.mem_of_getElem? hy)
       have hpk:pathsA n x s.pl s.mi lv (k + 1) A1=pathA n x s.pl s.mi lv A2 k:=by rw [pathsA,List.range_succ,List.foldl_append,hA2];rfl
       rw [pathA,hy] at hpk
       dsimp only at hpk
       rcases hlook with ⟨hg,q,b,hf⟩ | ⟨hg,hf⟩
       ·repeat (first | refine nx ?_ | (refine z3 fun K hK=>?_;simp only [go_sem,hy,List.getElem?_map,Path.row];apply hK;clear hK K))
        refine z8 (by kernel_rfl) (by kernel_rfl) fun K hK=>?_
        simp only [go_sem,c2,hf,Span.row]
        refine ⟨by kernel_rfl,hK _ ?_⟩
        clear hK K
        by_cases hfr:y.frm=s.pl
        ·have hne:(y.frm != s.pl)=false:=by simp [hfr]
         rw [if_pos ⟨hfr,hg⟩] at hpk
         have h65:FnG Tryd.prog 85 [.box [.d (.ptr (huntC n x) 0),.mp 1,.own 2],.mp (some [.i64,.i64]) (entsA A2 0) A2.length,.arr 114 2 (arvRows A2)] [0] [.box 0 0,.d (.i lv)] (.fn 103 [.box 3 0,.box 4 0])
          [.box [.d (.ptr (huntC n x) 0),.mp 1,.own 2],.mp (some [.i64,.i64]) (entsA A2 0) A2.length,.arr 114 2 (arvRows A2),.box [.d (.i lv)],.box [.box 0 0]]:=z1278 _ A2 lv
         obtain ⟨Ws,hWs⟩:∃ Ws,Ws=walksL x lv:=⟨_,rfl⟩
         have hit2:=z1226 n x lv (by omega) (by omega) (by omega)
         rw [← hWs] at hit2 hpk
         obtain ⟨lo,hlo⟩:∃ lo,lo=wr (lv + (spanW y x.party).lo):=⟨_,rfl⟩
         obtain ⟨hi,hhi⟩:∃ hi,hi=wr (lv + (spanW y x.party).hi):=⟨_,rfl⟩
         rw [← hlo,← hhi] at hpk
         have hlo':IntKind.i64.wrap (lv + (spanW y x.party).lo)=lo:=hlo.symm
         have hhi':IntKind.i64.wrap (lv + (spanW y x.party).hi)=hi:=hhi.symm
         repeat (first | refine nx ?_ | (refine z3 fun K hK=>?_;simp only [go_sem,hne];apply hK;clear hK K))
         refine z6 rfl ?_
         repeat (first | refine z23 ?_ | refine z30 ?_ | refine z7 ?_ | refine z4 ?_)
         refine z3 fun K hK=>?_
         simp only [go_sem]
         refine ⟨_,.own (ns:=[16,14,150]) (news:=[154,155]) (bads:=[14,150]) (rd:=[]) (hf:=h65) (hnd:=by decide) (hl0:=rfl) (hl1:=rfl) (hm:=by repeat (first | exact trivial | refine And.intro ?_ ?_ | rfl)) (hnew:=rfl) (hla:=rfl) (ha:=z60 (by repeat (first | exact trivial | refine And.intro ?_ ?_ | exact z78 rfl | exact z52 rfl rfl))) (hrd:=rfl) (hsh:=z213 _) (hb:=rfl) (hfl:=.inl rfl),?_⟩
         simp only [go_sem,List.map_cons,List.map_nil]
         apply hK
         clear hK K
         repeat (first | refine z23 ?_ | refine z30 ?_ | refine z7 ?_ | refine z4 ?_)
         refine z35 ?_
         have fin:∀ A3,walkA x.clues lo hi (fun t=>⟨y.to,t,s.pl,s.mi,k,lv⟩) Ws A2=A3→pathsA n x s.pl s.mi lv (k + 1) A1=A3:=fun A3 h=>by rw [hpk,h]
         refine z211 (fun _ h=>by cases h;exact hJ2) 16 16 ((trkB n x).map some) [154,155] rfl hit2 (fun b=>rfl) (by intro row hr;obtain ⟨w,_,rfl⟩:=List.mem_map.1 hr;rfl)
          (fun _=>[(109,.undef)]) (fun (a:List Arv)=>[(154,none),(155,none),(14,some (.mp (some [.i64,.i64]) (entsA a 0) a.length)),(150,some (.arr 114 2 (arvRows a)))])
          (fun i a=>walkA x.clues lo hi (fun t=>⟨y.to,t,s.pl,s.mi,k,lv⟩) Ws A2=walkA x.clues lo hi (fun t=>⟨y.to,t,s.pl,s.mi,k,lv⟩) (Ws.drop i) a∧goodA n x a)
          (fun e a=>e=.exit 6∧walkA x.clues lo hi (fun t=>⟨y.to,t,s.pl,s.mi,k,lv⟩) Ws A2=a∧goodA n x a) A2 ?_ ?_ ⟨rfl,hgA2⟩ ?_ ?_ ?_ ?_
         ·exact ⟨rfl,rfl,trivial⟩
         ·simp only [go_sem]
          refine weA ?_ ?_ <;> simp
         ·intro a
          simp only [go_sem]
          exact ⟨rfl,rfl,trivial⟩
         ·rintro i2 A3 row hj2 ⟨hA3,hgA3⟩ l2 m2
          obtain ⟨w,hw2,rfl⟩:∃ w,Ws[i2]?=some w∧row=[.i w.1,.bool w.2]:=by
           simp only [wkRows,List.getElem?_map,Option.map_eq_some_iff] at hj2
           obtain ⟨w,h1,h2⟩:=hj2
           exact ⟨w,h1,h2.symm⟩
          have hwr:=z269 (hWs ▸ List.mem_of_getElem? hw2)
          rw [z57 hw2,walkA] at hA3
          have hA3l:=z117 hgA3
          simp only [go_sem]
          repeat (first | refine nx ?_ | (refine z3 fun K hK=>?_;simp only [go_sem];apply hK;clear hK K))
          intro J3 hJ3
          refine z35 ?_
          repeat (first | refine nx ?_ | (refine z3 fun K hK=>?_;simp only [go_sem,hhi'];apply hK;clear hK K))
          refine z5 rfl (fun hc1=>?_) (fun hc1=>?_)
          ·have hc1':w.1 > hi:=by simpa using hc1
           rw [if_pos hc1'] at hA3
           repeat (first | refine nx ?_ | (refine z3 fun K hK=>?_;simp only [go_sem];apply hK;clear hK K))
           refine ⟨rfl,rfl,A3,?_,rfl,hA3,hgA3⟩
           simp only [go_sem]
           refine weA ?_ ?_ <;> simp
          ·have hc1':¬ w.1 > hi:=by simpa using hc1
           rw [if_neg hc1'] at hA3
           repeat (first | refine nx ?_ | (refine z3 fun K hK=>?_;simp only [go_sem,hlo'];apply hK;clear hK K))
           refine z5 rfl (fun hc2=>?_) (fun hc2=>?_)
           ·have hc2':w.1 ≥ lo:=by simpa using hc2
            rw [if_pos hc2'] at hA3
            have h63':FnG Tryd.prog 83 [.box [.d (.ptr (huntC n x) 0),.mp 1,.own 2],.mp (some [.i64,.i64]) (entsA A3 0) A3.length,.arr 114 2 (arvRows A3)] [0] [.box 0 0,.d (.agg [.i y.to,.i w.1]),.d (.agg [.i s.pl,.i s.mi,.i k,.i lv])] (.tup [])
             [.box [.d (.ptr (huntC n x) 0),.mp 1,.own 2],.mp (some [.i64,.i64]) (entsA (arriveA x.clues A3 ⟨y.to,w.1,s.pl,s.mi,k,lv⟩) 0) (arriveA x.clues A3 ⟨y.to,w.1,s.pl,s.mi,k,lv⟩).length,.arr 114 2 (arvRows (arriveA x.clues A3 ⟨y.to,w.1,s.pl,s.mi,k,lv⟩))] :=
             z1327 n x A3 ⟨y.to,w.1,s.pl,s.mi,k,lv⟩ hyg.to.1 (by omega) (by omega)
            repeat (first | refine z23 ?_ | refine z30 ?_)
            refine z3 fun K hK=>?_
            simp only [go_sem]
            refine ⟨_,.own (ns:=[16,14,150]) (news:=[]) (bads:=[14,150]) (rd:=[]) (hf:=h63') (hnd:=by decide) (hl0:=rfl) (hl1:=rfl) (hm:=by repeat (first | exact trivial | refine And.intro ?_ ?_ | rfl)) (hnew:=rfl) (hla:=rfl) (ha:=z60 (by repeat (first | exact trivial | refine And.intro ?_ ?_ | exact z78 rfl | exact z52 rfl rfl))) (hrd:=rfl) (hsh:=z213 _) (hb:=rfl) (hfl:=.inl rfl),?_⟩
            simp only [go_sem,List.map_cons,List.map_nil]
            apply hK
            clear hK K
            repeat (first | refine nx ?_ | (refine z3 fun K hK=>?_;simp only [go_sem];apply hK;clear hK K))
            refine ⟨rfl,arriveA x.clues A3 ⟨y.to,w.1,s.pl,s.mi,k,lv⟩,?_,hA3,z70 hgA3 ⟨hyg.to,by dsimp only;omega⟩⟩
            simp only [go_sem]
            refine weA ?_ ?_ <;> simp
           ·have hc2':¬ w.1 ≥ lo:=by simpa using hc2
            rw [if_neg hc2'] at hA3
            repeat (first | refine nx ?_ | (refine z3 fun K hK=>?_;simp only [go_sem];apply hK;clear hK K))
            refine ⟨rfl,A3,?_,hA3,hgA3⟩
            simp only [go_sem]
            refine weA ?_ ?_ <;> simp
         ·rintro A3 ⟨hA3,hgA3⟩
          rw [wkRows,List.length_map,List.drop_length,walkA] at hA3
          simp only [go_sem]
          repeat (first | refine nx ?_ | (refine z3 fun K hK=>?_;simp only [go_sem,hkw];apply hK;clear hK K))
          refine ⟨rfl,(k + 1,A3),?_,⟨hkl,hgA3,(fin A3 hA3).symm⟩,by dsimp only;omega⟩
          simp only [go_sem]
          refine weA ?_ ?_ <;> simp
         ·rintro e A3 ⟨rfl,hA3,hgA3⟩ _
          refine z65 ?_
          refine z4 ?_
          simp only [go_sem]
          repeat (first | refine nx ?_ | (refine z3 fun K hK=>?_;simp only [go_sem,hkw];apply hK;clear hK K))
          refine ⟨rfl,(k + 1,A3),?_,⟨hkl,hgA3,(fin A3 hA3).symm⟩,by dsimp only;omega⟩
          simp only [go_sem]
          refine weA ?_ ?_ <;> simp
        ·have hne:(y.frm != s.pl)=true:=by simpa using hfr
         rw [if_neg (fun hc=>hfr hc.1)] at hpk
         repeat (first | refine nx ?_ | (refine z3 fun K hK=>?_;simp only [go_sem,hne];apply hK;clear hK K))
         refine z9 rfl ?_
         repeat (first | refine nx ?_ | (refine z3 fun K hK=>?_;simp only [go_sem,hkw];apply hK;clear hK K))
         refine ⟨rfl,(k + 1,A2),?_,⟨hkl,hgA2,hpk.symm⟩,by dsimp only;omega⟩
         simp only [go_sem]
         refine weA ?_ ?_ <;> simp
       ·rw [if_neg (fun hc=>hg hc.2)] at hpk
        repeat (first | refine nx ?_ | (refine z3 fun K hK=>?_;simp only [go_sem,hy,List.getElem?_map,Path.row];apply hK;clear hK K))
        refine z8 (by kernel_rfl) (by kernel_rfl) fun K hK=>?_
        simp only [go_sem,c2,hf]
        refine ⟨by kernel_rfl,hK _ ?_⟩
        clear hK K
        by_cases hfr:y.frm=s.pl
        all_goals
         first | (have hne:(y.frm != s.pl)=false:=by simp [hfr]) | (have hne:(y.frm != s.pl)=true:=by simpa using hfr)
         repeat (first | refine nx ?_ | (refine z3 fun K hK=>?_;simp only [go_sem,hne];apply hK;clear hK K))
         refine z9 rfl ?_
         repeat (first | refine nx ?_ | (refine z3 fun K hK=>?_;simp only [go_sem,hkw];apply hK;clear hK K))
         refine ⟨rfl,(k + 1,A2),?_,⟨hkl,hgA2,hpk.symm⟩,by dsimp only;omega⟩
         simp only [go_sem]
         refine weA ?_ ?_ <;> simp
      ·have he:k=n.paths.length:=by (have:¬ k<n.paths.length:=by simpa using hkb);omega
       subst he
       repeat (first | refine nx ?_ | (refine z3 fun K hK=>?_;simp only [go_sem];apply hK;clear hK K))
       refine ⟨rfl,(A2,L2),?_,by rw [hnext,hlv,hA2],hgA2⟩
       simp only [go_sem]
       refine weA ?_ ?_ <;> simp
   ·rintro ⟨A1,L1⟩ ⟨hA1,hgA1⟩
    rw [minRows,List.length_map,List.take_length,hLs] at hA1
    have hA1:(A1,L1)=spotA n x s (A,L):=hA1
    have hln:A.length≤A1.length:=by
     have:=z1049 n x s (A,L)
     rw [← hA1] at this
     exact this
    rw [show boundN n x + 1 - i=(boundN n x - i) + 1 by omega,followF] at hRi
    dsimp only at hRi
    rw [hs] at hRi
    dsimp only at hRi
    rw [← hA1] at hRi
    simp only [go_sem]
    repeat (first | refine nx ?_ | (refine z3 fun K hK=>?_;simp only [go_sem,hw];apply hK;clear hK K))
    refine ⟨rfl,(i + 1,A1,L1),?_,⟨?_,hgA1,?_⟩,by dsimp only;omega⟩
    ·simp only [go_sem]
     refine weA ?_ ?_ <;> simp
    ·dsimp only at hgA1 ⊢;omega
    ·dsimp only
     rw [show boundN n x + 1 - (i + 1)=boundN n x - i by omega]
     exact hRi
  ·have he:i=A.length:=by (have:¬ i<A.length:=by simpa using hb);omega
   have hRe:R=(A,L):=by
    rw [hRi]
    cases hf:boundN n x + 1 - i with
    | zero=>rfl
    | succ f=>rw [followF];dsimp only;rw [List.getElem?_eq_none (by omega)]
   rw [hRe]
   repeat (first | refine nx ?_ | (refine z3 fun K hK=>?_;simp only [go_sem];apply hK;clear hK K))
   simp only [go_sem,trkM,legsB]
end Go.Ab
namespace Go.Ab
open Go.RowKit Go.Proofs
set_option maxHeartbeats 16000000
set_option maxRecDepth 20000
attribute [local irreducible] WalkL Walk
structure EndT where
 pl:Int
 mi:Int
 pa:Int
 lv:Int
def EndT.row (e:EndT):List DV:=[.i e.pl,.i e.mi,.i e.pa,.i e.lv]
def endRows (l:List EndT):List (List DV):=l.map fun e=>[.agg e.row]
def seenF (l:List Clue):Int:=l.foldl (fun a c=>if c.seen then max a c.minute else a) 0
def endIn (x:Missed) (s:Arv) (m:Int):Option EndT:=if m=x.now then some ⟨s.pl,s.mi,-1,x.now⟩ else none
def endOn (n:Net) (x:Missed) (s:Arv) (lv:Int) (k:Nat):Option EndT:=match n.paths[k]? with
 | some y=>if y.grade≤x.party.grade∧y.frm=s.pl then some ⟨s.pl,s.mi,k,lv⟩ else none
 | none=>none
def endLv (n:Net) (x:Missed) (s:Arv) (lv:Int):List EndT:=if lv=x.now∨lv<seenF x.clues then [] else (List.range n.paths.length).filterMap (endOn n x s lv)
def endOf8 (n:Net) (x:Missed) (s:Arv):List EndT:=(staysL x s.pl s.mi x.now).filterMap (endIn x s)++(staysL x s.pl s.mi (wr (s.mi + x.rest))).flatMap (endLv n x s)
def endsL (n:Net) (x:Missed) (A:List Arv):List EndT:=A.flatMap (endOf8 n x)
theorem z473 {I X Y:List EndT} {e:EndT} (h:I=X++e::Y):(endRows I)[X.length]?=some [.agg e.row]:=by
 rw [h];simp [endRows]
theorem z1200 (n:Net) (x:Missed) (hx:Hunted n x) (A:List Arv) (b:DV) (hgA:goodA n x A) :
  IterE Tryd.prog 50 [] (fun l=>[.d (.ptr [.ptr (huntC n x) 0,b,.sl (arvRows A)] 0),.d (.yld l)]) (endRows (endsL n x A)):=by
 have c11:(huntC n x)[11]?=some (.sl (x.clues.map Clue.row)):=rfl
 have c9:(huntC n x)[9]?=some (.i x.now):=rfl
 have c10:(huntC n x)[10]?=some (.i x.rest):=rfl
 have c1:(huntC n x)[1]?=some (.sl (n.paths.map Path.row)):=rfl
 have hst:=hx.start
 have hno:=hx.now
 have hre:=hx.rest
 have hcl:=hx.clues
 have hpl:=hx.net.paths
 have hAl:=z117 hgA
 have hN:=z182 hx
 obtain ⟨H,hH⟩:∃ H,H=huntC n x:=⟨_,rfl⟩
 refine z254 160 Tryd.call50 Tryd.func50 rfl rfl fun l J hG=>?_
 simp only [go_sem,St.startG,Tryd.ntmps50,Tryd.results50,List.map_cons,List.map_nil,List.range_succ,  ]
 repeat (first | refine nx ?_ | (refine z3 fun K hK=>?_;simp only [go_sem,c11];apply hK;clear hK K))
 refine z13 (fun (i:Nat)=>[(24,.d (.i i))]) (fun i=>[(4,some (.box [.d (.i (seenF (x.clues.take i)))]))]) (fun i=>i≤x.clues.length) (fun i=>x.clues.length - i) 0 ?_ (Nat.zero_le _) ?_
 ·simp only [go_sem,seenF,List.take_zero,List.foldl_nil]
  refine weA ?_ ?_ <;> simp
 ·intro i hi
  simp only [go_sem]
  repeat (first | refine nx ?_ | (refine z3 fun K hK=>?_;simp only [go_sem];apply hK;clear hK K))
  refine z5 rfl (fun hb=>?_) (fun hb=>?_)
  ·have hlt:i<x.clues.length:=by simpa using hb
   have hw:IntKind.i64.wrap ((i:Int) + 1)=((i + 1:Nat):Int):=by rw [z11 (by omega)];simp
   obtain ⟨c,hc⟩:∃ c,x.clues[i]?=some c:=⟨_,List.getElem?_eq_getElem hlt⟩
   have hs1:seenF (x.clues.take (i + 1))=if c.seen then max (seenF (x.clues.take i)) c.minute else seenF (x.clues.take i):=by
    rw [seenF,z37 _ _ _ _ _ hc];rfl
   repeat (first | refine nx ?_ | (refine z3 fun K hK=>?_;simp only [go_sem,hc,List.getElem?_map,Clue.row];apply hK;clear hK K))
   cases hcs:c.seen
   ·rw [hcs] at hs1
    refine z6 rfl ?_
    repeat (first | refine nx ?_ | (refine z3 fun K hK=>?_;simp only [go_sem,hw];apply hK;clear hK K))
    refine ⟨rfl,i + 1,?_,hlt,by omega⟩
    simp only [go_sem,hs1,Bool.false_eq_true,if_false]
    refine weA ?_ ?_ <;> simp
   ·rw [hcs] at hs1
    refine z9 rfl ?_
    repeat (first | refine nx ?_ | (refine z3 fun K hK=>?_;simp only [go_sem,hw];apply hK;clear hK K))
    refine ⟨rfl,i + 1,?_,hlt,by omega⟩
    simp only [go_sem,hs1,if_true]
    refine weA ?_ ?_ <;> simp
  ·have he:i=x.clues.length:=by (have:¬ i<x.clues.length:=by simpa using hb);omega
   subst he
   rw [List.take_length]
   have hrl:=z357 A
   repeat (first | refine nx ?_ | (refine z3 fun K hK=>?_;simp only [go_sem,hrl];apply hK;clear hK K))
   obtain ⟨I,hI⟩:∃ I,I=endsL n x A:=⟨_,rfl⟩
   rw [← hI] at hG ⊢
   refine z62 (fun (i:Nat)=>[(40,.d (.i i))]) (fun _=>[]) (fun k i=>i≤A.length∧∃ X,k=some X.length∧I=X++(A.drop i).flatMap (endOf8 n x)) (fun i=>A.length - i) 0 ?_ ⟨Nat.zero_le _,[],rfl,by rw [hI];rfl⟩ ?_
   ·simp only [go_sem]
    refine weA ?_ ?_ <;> simp
   ·rintro k i ⟨hi,X,rfl,hX⟩
    simp only [go_sem]
    repeat (first | refine nx ?_ | (refine z3 fun K hK=>?_;simp only [go_sem];apply hK;clear hK K))
    refine z5 rfl (fun hb=>?_) (fun hb=>?_)
    ·have hlt:i<A.length:=by simpa using hb
     have hw:IntKind.i64.wrap ((i:Int) + 1)=((i + 1:Nat):Int):=by rw [z11 (by omega)];simp
     obtain ⟨s,hs⟩:∃ s,A[i]?=some s:=⟨_,List.getElem?_eq_getElem hlt⟩
     have hrow:=z358 hs
     have hgs:=hgA.1 s (List.mem_of_getElem? hs)
     rw [z57 hs,List.flatMap_cons,endOf8] at hX
     have h64a:=z1326 [.ptr (huntC n x) 0,b,.sl (arvRows A)] s.pl s.mi x.now
     have h64b:=z1326 [.ptr (huntC n x) 0,b,.sl (arvRows A)] s.pl s.mi (wr (s.mi + x.rest))
     have hit1:=z1089 n x b (.sl (arvRows A)) s.pl s.mi x.now hgs.1.1 (by omega) (by omega) (by omega)
     have hit2:=z1089 n x b (.sl (arvRows A)) s.pl s.mi (wr (s.mi + x.rest)) hgs.1.1 (by omega) (by omega) (by omega)
     obtain ⟨L1,hL1⟩:∃ L,L=staysL x s.pl s.mi x.now:=⟨_,rfl⟩
     obtain ⟨L2,hL2⟩:∃ L,L=staysL x s.pl s.mi (wr (s.mi + x.rest)):=⟨_,rfl⟩
     rw [← hL1] at hit1 hX
     rw [← hL2] at hit2 hX
     obtain ⟨Z,hZ⟩:∃ Z,Z=(A.drop (i + 1)).flatMap (endOf8 n x):=⟨_,rfl⟩
     rw [← hZ] at hX
     repeat (first | refine nx ?_ | (refine z3 fun K hK=>?_;simp only [go_sem,hrow];apply hK;clear hK K))
     refine z8 (by kernel_rfl) (by kernel_rfl) fun K hK=>?_
     simp only [go_sem,c9]
     refine ⟨_,.fn (hf:=h64a) (hd:=rfl) (hr:=.inr rfl),?_⟩
     simp only [go_sem]
     refine ⟨by kernel_rfl,hK _ ?_⟩
     clear hK K
     refine z35 ?_
     refine z121 rfl hit1 (by intro row hr;obtain ⟨w,_,rfl⟩:=List.mem_map.1 hr;rfl) (fun (_:Unit)=>[]) (fun _=>[]) (fun k' j _=>∃ Y,k'=some Y.length∧I=Y++((L1.drop j).filterMap (endIn x s)++(L2.flatMap (endLv n x s)++Z)))
      (fun e k' _=>e=.ret∧k'=none) () ?_ ⟨X,rfl,by simpa using hX⟩ ?_ ?_ ?_
     ·simp only [go_sem]
      refine weA ?_ ?_ <;> simp
     ·rintro X0 W0 k' j _ row hj ⟨Y,rfl,hY⟩ l1 m1
      obtain ⟨m,hm,rfl⟩:∃ m,L1[j]?=some m∧row=[.i m]:=by
       simp only [minRows,List.getElem?_map,Option.map_eq_some_iff] at hj
       obtain ⟨lv,h1,h2⟩:=hj
       exact ⟨lv,h1,h2.symm⟩
      have hG1:=z258 hG X0 W0
      rw [z57 hm,List.filterMap_cons] at hY
      simp only [go_sem]
      repeat (first | refine nx ?_ | (refine z3 fun K hK=>?_;simp only [go_sem];apply hK;clear hK K))
      by_cases hmn:m=x.now
      ·have hme:(m == x.now)=true:=by simpa using hmn
       have hei:endIn x s m=some ⟨s.pl,s.mi,-1,x.now⟩:=by rw [endIn,if_pos hmn]
       rw [hei] at hY
       dsimp only at hY
       rw [List.cons_append] at hY
       refine z67 hG1 [] 22 (by kernel_rfl) (by kernel_rfl) (by kernel_rfl) (by decide) fun K hK=>?_
       simp only [go_sem,c9,hme]
       refine ⟨by kernel_rfl,?_⟩
       refine ⟨rfl,Y.length,_,rfl,rfl,rfl,z473 hY,?_,?_⟩
       ·simp only [go_sem]
        refine hK _ _ ?_
        clear hK K
        refine z6 rfl ?_
        repeat (first | refine nx ?_ | (refine z3 fun K hK=>?_;simp only [go_sem];apply hK;clear hK K))
        refine ⟨(),?_,Y++[⟨s.pl,s.mi,-1,x.now⟩],by simp,by rw [hY];simp⟩
        simp only [go_sem]
        refine weA ?_ ?_ <;> simp
       ·simp only [go_sem]
        refine hK _ _ ?_
        clear hK K
        refine z9 rfl ?_
        repeat (first | refine nx ?_ | (refine z3 fun K hK=>?_;simp only [go_sem];apply hK;clear hK K))
        refine ⟨rfl,(),?_,rfl,rfl⟩
        simp only [go_sem]
        refine weA ?_ ?_ <;> simp
      ·have hme:(m == x.now)=false:=by simpa using hmn
       have hei:endIn x s m=none:=by rw [endIn,if_neg hmn]
       rw [hei] at hY
       dsimp only at hY
       refine z67 hG1 [] 22 (by kernel_rfl) (by kernel_rfl) (by kernel_rfl) (by decide) fun K hK=>?_
       simp only [go_sem,c9,hme]
       refine ⟨by kernel_rfl,?_⟩
       refine hK _ _ ?_
       clear hK K
       refine z6 rfl ?_
       repeat (first | refine nx ?_ | (refine z3 fun K hK=>?_;simp only [go_sem];apply hK;clear hK K))
       refine ⟨(),?_,Y,rfl,hY⟩
       simp only [go_sem]
       refine weA ?_ ?_ <;> simp
     ·rintro k' _ ⟨Y,rfl,hY⟩
      rw [minRows,List.length_map,List.drop_length,List.filterMap_nil,List.nil_append] at hY
      simp only [go_sem]
      repeat (first | refine nx ?_ | (refine z3 fun K hK=>?_;simp only [go_sem];apply hK;clear hK K))
      refine z8 (by kernel_rfl) (by kernel_rfl) fun K hK=>?_
      simp only [go_sem,c10]
      refine ⟨_,.fn (hf:=h64b) (hd:=rfl) (hr:=.inr rfl),?_⟩
      simp only [go_sem]
      refine ⟨by kernel_rfl,hK _ ?_⟩
      clear hK K
      refine z35 ?_
      refine z121 rfl hit2 (by intro row hr;obtain ⟨w,_,rfl⟩:=List.mem_map.1 hr;rfl) (fun (_:Unit)=>[]) (fun _=>[]) (fun k' j _=>∃ Y,k'=some Y.length∧I=Y++((L2.drop j).flatMap (endLv n x s)++Z))
       (fun e k' _=>e=.ret∧k'=none) () ?_ ⟨Y,rfl,by simpa using hY⟩ ?_ ?_ ?_
      ·simp only [go_sem]
       refine weA ?_ ?_ <;> simp
      ·rintro X0 W0 k' j _ row hj ⟨Y,rfl,hY⟩ l1 m1
       obtain ⟨lv,hlv,rfl⟩:∃ m,L2[j]?=some m∧row=[.i m]:=by
        simp only [minRows,List.getElem?_map,Option.map_eq_some_iff] at hj
        obtain ⟨lv,h1,h2⟩:=hj
        exact ⟨lv,h1,h2.symm⟩
       have hG1:=z258 hG X0 W0
       rw [z57 hlv,List.flatMap_cons] at hY
       simp only [go_sem]
       repeat (first | refine nx ?_ | (refine z3 fun K hK=>?_;simp only [go_sem];apply hK;clear hK K))
       by_cases hmn:lv=x.now
       ·have hme:(lv == x.now)=true:=by simpa using hmn
        rw [endLv,if_pos (.inl hmn),List.nil_append] at hY
        repeat (first | refine nx ?_ | (refine z3 fun K hK=>?_;simp only [go_sem,c9,hme];apply hK;clear hK K))
        refine z9 rfl ?_
        repeat (first | refine nx ?_ | (refine z3 fun K hK=>?_;simp only [go_sem];apply hK;clear hK K))
        refine ⟨(),?_,Y,rfl,hY⟩
        simp only [go_sem]
        refine weA ?_ ?_ <;> simp
       ·have hme:(lv == x.now)=false:=by simpa using hmn
        by_cases hls:lv<seenF x.clues
        ·have hle:decide (lv<seenF x.clues)=true:=by simpa using hls
         rw [endLv,if_pos (.inr hls),List.nil_append] at hY
         repeat (first | refine nx ?_ | (refine z3 fun K hK=>?_;simp only [go_sem,c9,hme,hle];apply hK;clear hK K))
         refine z9 rfl ?_
         repeat (first | refine nx ?_ | (refine z3 fun K hK=>?_;simp only [go_sem];apply hK;clear hK K))
         refine ⟨(),?_,Y,rfl,hY⟩
         simp only [go_sem]
         refine weA ?_ ?_ <;> simp
        ·have hle:decide (lv<seenF x.clues)=false:=by simpa using hls
         rw [endLv,if_neg (fun hc=>hc.elim hmn hls)] at hY
         repeat (first | refine nx ?_ | (refine z3 fun K hK=>?_;simp only [go_sem,c9,hme,hle];apply hK;clear hK K))
         refine z6 rfl ?_
         repeat (first | refine nx ?_ | (refine z3 fun K hK=>?_;simp only [go_sem,c1];apply hK;clear hK K))
         obtain ⟨V,hV⟩:∃ V,V=(L2.drop (j + 1)).flatMap (endLv n x s)++Z:=⟨_,rfl⟩
         rw [List.append_assoc,← hV] at hY
         refine z62 (fun (q:Nat)=>[(121,.d (.i q))]) (fun _=>[]) (fun k q=>q≤n.paths.length∧∃ Y,k=some Y.length∧I=Y++((List.range' q (n.paths.length - q)).filterMap (endOn n x s lv)++V)) (fun q=>n.paths.length - q) 0 ?_ ⟨Nat.zero_le _,Y,rfl,by rw [Nat.sub_zero,← List.range_eq_range'];exact hY⟩ ?_
         ·try simp only [go_sem]
          refine weA ?_ ?_ <;> simp
         ·rintro k q ⟨hq,Y,rfl,hY⟩
          simp only [go_sem]
          repeat (first | refine nx ?_ | (refine z3 fun K hK=>?_;simp only [go_sem];apply hK;clear hK K))
          refine z5 rfl (fun hkb=>?_) (fun hkb=>?_)
          ·have hkl:q<n.paths.length:=by simpa using hkb
           have hkw:IntKind.i64.wrap ((q:Int) + 1)=((q + 1:Nat):Int):=by rw [z11 (by omega)];simp
           obtain ⟨y,hy⟩:∃ y,n.paths[q]?=some y:=⟨_,List.getElem?_eq_getElem hkl⟩
           obtain ⟨ks,vs,cc,hT,hlook⟩:=z434 n x.party hy
           have c2:(huntC n x)[2]?=some (.mp none ks vs cc):=by rw [← hT];rfl
           rw [show n.paths.length - q=(n.paths.length - (q + 1)) + 1 by omega,List.range'_succ,List.filterMap_cons] at hY
           rcases hlook with ⟨hg,fq,fb,hf⟩ | ⟨hg,hf⟩
           ·by_cases hfr:y.frm=s.pl
            ·have hne:(y.frm == s.pl)=true:=by simpa using hfr
             have heo:endOn n x s lv q=some ⟨s.pl,s.mi,q,lv⟩:=by rw [endOn,hy];dsimp only;rw [if_pos ⟨hg,hfr⟩]
             rw [heo] at hY
             dsimp only at hY
             rw [List.cons_append] at hY
             repeat (first | refine nx ?_ | (refine z3 fun K hK=>?_;simp only [go_sem,hy,List.getElem?_map,Path.row,c2,hf,Span.row];apply hK;clear hK K))
             refine z144 hG1 [] fun K hK=>?_
             simp only [go_sem,hne]
             refine ⟨rfl,Y.length,_,rfl,rfl,rfl,z473 hY,?_,?_⟩
             ·simp only [go_sem]
              refine hK _ _ ?_
              clear hK K
              refine z6 rfl ?_
              repeat (first | refine nx ?_ | (refine z3 fun K hK=>?_;simp only [go_sem,hkw];apply hK;clear hK K))
              refine ⟨q + 1,?_,⟨hkl,Y++[⟨s.pl,s.mi,q,lv⟩],by simp,by rw [hY];simp⟩,by omega⟩
              try simp only [go_sem]
              refine weA ?_ ?_ <;> simp
             ·simp only [go_sem]
              refine hK _ _ ?_
              clear hK K
              refine z9 rfl ?_
              repeat (first | refine nx ?_ | (refine z3 fun K hK=>?_;simp only [go_sem];apply hK;clear hK K))
              refine ⟨rfl,(),?_,rfl,rfl⟩
              try simp only [go_sem]
              refine weA ?_ ?_ <;> simp
            ·have hne:(y.frm == s.pl)=false:=by simpa using hfr
             have heo:endOn n x s lv q=none:=by rw [endOn,hy];dsimp only;rw [if_neg (fun hc=>hfr hc.2)]
             rw [heo] at hY
             dsimp only at hY
             repeat (first | refine nx ?_ | (refine z3 fun K hK=>?_;simp only [go_sem,hy,List.getElem?_map,Path.row,c2,hf,Span.row];apply hK;clear hK K))
             refine z144 hG1 [] fun K hK=>?_
             simp only [go_sem,hne]
             refine hK _ _ ?_
             clear hK K
             refine z6 rfl ?_
             repeat (first | refine nx ?_ | (refine z3 fun K hK=>?_;simp only [go_sem,hkw];apply hK;clear hK K))
             refine ⟨q + 1,?_,⟨hkl,Y,rfl,hY⟩,by omega⟩
             try simp only [go_sem]
             refine weA ?_ ?_ <;> simp
           ·have heo:endOn n x s lv q=none:=by rw [endOn,hy];dsimp only;rw [if_neg (fun hc=>hg hc.1)]
            rw [heo] at hY
            dsimp only at hY
            repeat (first | refine nx ?_ | (refine z3 fun K hK=>?_;simp only [go_sem,hy,List.getElem?_map,Path.row,c2,hf];apply hK;clear hK K))
            refine z6 rfl ?_
            repeat (first | refine nx ?_ | (refine z3 fun K hK=>?_;simp only [go_sem,hkw];apply hK;clear hK K))
            refine ⟨q + 1,?_,⟨hkl,Y,rfl,hY⟩,by omega⟩
            try simp only [go_sem]
            refine weA ?_ ?_ <;> simp
          ·have he:q=n.paths.length:=by (have:¬ q<n.paths.length:=by simpa using hkb);omega
           subst he
           rw [Nat.sub_self,List.range'_zero,List.filterMap_nil,List.nil_append] at hY
           repeat (first | refine nx ?_ | (refine z3 fun K hK=>?_;simp only [go_sem];apply hK;clear hK K))
           refine ⟨(),?_,Y,rfl,by rw [hY,hV]⟩
           try simp only [go_sem]
           refine weA ?_ ?_ <;> simp
      ·rintro k' _ ⟨Y,rfl,hY⟩
       rw [minRows,List.length_map,List.drop_length,List.flatMap_nil,List.nil_append] at hY
       simp only [go_sem]
       repeat (first | refine nx ?_ | (refine z3 fun K hK=>?_;simp only [go_sem,hw];apply hK;clear hK K))
       refine ⟨i + 1,?_,⟨hlt,Y,rfl,by rw [hY,hZ]⟩,by omega⟩
       try simp only [go_sem]
       refine weA ?_ ?_ <;> simp
      ·rintro e k' _ ⟨rfl,rfl⟩ _
       repeat (first | refine z111 ?_ | refine z132 ?_)
       exact ⟨trivial,.inr rfl⟩
     ·rintro e k' _ ⟨rfl,rfl⟩ _
      repeat (first | refine z111 ?_ | refine z132 ?_)
      exact ⟨trivial,.inr rfl⟩
    ·have he:i=A.length:=by (have:¬ i<A.length:=by simpa using hb);omega
     subst he
     rw [List.drop_length,List.flatMap_nil,List.append_nil] at hX
     repeat (first | refine nx ?_ | (refine z3 fun K hK=>?_;simp only [go_sem];apply hK;clear hK K))
     exact ⟨trivial,.inl (by rw [hX,endRows,List.length_map])⟩
end Go.Ab
namespace Go.Ab
open Go.RowKit Go.Proofs
set_option maxHeartbeats 16000000
set_option maxRecDepth 20000
attribute [local irreducible] WalkL Walk
def posL (l:List Int):List Int:=selL (fun i=>decide (getI l i > 0)) l.length
theorem z1133 {q:Nat→Bool} {k:Nat} (h:selL q k=[]) {i:Nat} (hi:i<k):q i=false:=by
 cases hq:q i
 ·rfl
 ·exfalso
  have:(i:Int) ∈ selL q k:=List.mem_map.2 ⟨i,List.mem_filter.2 ⟨List.mem_range.2 hi,hq⟩,rfl⟩
  rw [h] at this
  simp at this
theorem z1203 (l:List Int) (hl:l.length<2 ^ 30) (hp:posL l=[]):Fn Tryd.prog 51 [.sl (intRows l)] .nilsl:=by
 have hrl:=z18 l
 refine z1184 20 Tryd.call51 Tryd.func51 rfl (by decide) fun J=>?_
 simp only [go_sem,St.start,Tryd.ntmps51,Tryd.results51]
 repeat (first | refine nx ?_ | (refine z3 fun K hK=>?_;simp only [go_sem,hrl];apply hK;clear hK K))
 refine z13 (fun (i:Nat)=>[(7,.d (.i i)),(2,.nil)]) (fun _=>[]) (fun i=>i≤l.length) (fun i=>l.length - i) 0 ?_ (Nat.zero_le _) ?_
 ·simp only [go_sem]
  refine weA ?_ ?_ <;> simp
 ·intro i hi
  simp only [go_sem]
  repeat (first | refine nx ?_ | (refine z3 fun K hK=>?_;simp only [go_sem];apply hK;clear hK K))
  refine z5 rfl (fun hb=>?_) (fun hb=>?_)
  ·have hlt:i<l.length:=by simpa using hb
   have hw:IntKind.i64.wrap ((i:Int) + 1)=((i + 1:Nat):Int):=by rw [z11 (by omega)];simp
   have hg:(intRows l)[i]?=some [.i (getI l i)]:=by simpa using z83 (l:=l) (i:=(i:Int)) (by omega) (by simpa using hlt)
   have hil:i<(intRows l).length:=by omega
   have hq:=z1133 hp hlt
   repeat (first | refine nx ?_ | (refine z3 fun K hK=>?_;simp only [go_sem,hg,hil,hq];apply hK;clear hK K))
   refine z6 rfl ?_
   repeat (first | refine nx ?_ | (refine z3 fun K hK=>?_;simp only [go_sem,hw];apply hK;clear hK K))
   refine ⟨rfl,i + 1,?_,hlt,by omega⟩
   try simp only [go_sem]
   refine weA ?_ ?_ <;> simp
  ·have he:i=l.length:=by (have:¬ i<l.length:=by simpa using hb);omega
   subst he
   repeat (first | refine nx ?_ | (refine z3 fun K hK=>?_;simp only [go_sem];apply hK;clear hK K))
   simp only [go_sem,retN]
theorem z1202 (l:List Int) (hl:l.length<2 ^ 30):FnS Tryd.prog 51 [.sl (intRows l)] 3 1 (intRows (posL l)):=by
 have hrl:=z18 l
 refine z297 24 Tryd.call51 Tryd.func51 rfl (by decide) fun J=>?_
 simp only [go_sem,St.start,Tryd.ntmps51,Tryd.results51,]
 repeat (first | refine nx ?_ | (refine z3 fun K hK=>?_;simp only [go_sem,hrl];apply hK;clear hK K))
 refine z13 (fun (i:Nat)=>[(7,.d (.i i)),(2,.own 22)]) (fun i=>[(22,some (.arr 3 1 (intRows (selL (fun j=>decide (getI l j > 0)) i))))]) (fun i=>i≤l.length) (fun i=>l.length - i) 0 ?_ (Nat.zero_le _) ?_
 ·simp only [go_sem]
  refine z61 [22] ?_ ?_ ?_ ?_
  ·simp [lessT,z82,AV.less]
  ·simp [lessM,lessB,lessT,z82,AV.less,selL,intRows]
  ·first | rfl | simp [liveB,AV.refs,AV.refs.AV.refss,selL,intRows]
  ·first | rfl | simp [liveM,liveB,AV.refs,AV.refs.AV.refss,selL,intRows]
 ·intro i hi
  have hsl:=z892 (fun j=>decide (getI l j > 0)) i
  have hs1:=z1052 (fun j=>decide (getI l j > 0)) i
  have hr39:(intRows (selL (fun j=>decide (getI l j > 0)) i)).length≤549755813887:=by rw [z18];omega
  simp only [go_sem]
  repeat (first | refine nx ?_ | (refine z3 fun K hK=>?_;simp only [go_sem];apply hK;clear hK K))
  refine z5 rfl (fun hb=>?_) (fun hb=>?_)
  ·have hlt:i<l.length:=by simpa using hb
   have hw:IntKind.i64.wrap ((i:Int) + 1)=((i + 1:Nat):Int):=by rw [z11 (by omega)];simp
   have hg:(intRows l)[i]?=some [.i (getI l i)]:=by simpa using z83 (l:=l) (i:=(i:Int)) (by omega) (by simpa using hlt)
   have hil:i<(intRows l).length:=by omega
   by_cases hq:getI l i > 0
   ·have hq:decide (getI l i > 0)=true:=decide_eq_true hq
    rw [hq,if_pos rfl] at hs1
    repeat (first | refine nx ?_ | (refine z3 fun K hK=>?_;simp only [go_sem,hg,hil,hq];apply hK;clear hK K))
    refine z9 rfl ?_
    repeat (first | refine nx ?_ | (refine z3 fun K hK=>?_;simp only [go_sem,hr39,hw];apply hK;clear hK K))
    refine ⟨rfl,i + 1,?_,hlt,by omega⟩
    try simp only [go_sem,hs1,intRows,List.map_append,List.map_cons,List.map_nil]
    refine weA ?_ ?_ <;> simp
   ·have hq:decide (getI l i > 0)=false:=decide_eq_false hq
    rw [hq] at hs1
    simp only [Bool.false_eq_true,if_false,List.append_nil] at hs1
    repeat (first | refine nx ?_ | (refine z3 fun K hK=>?_;simp only [go_sem,hg,hil,hq];apply hK;clear hK K))
    refine z6 rfl ?_
    repeat (first | refine nx ?_ | (refine z3 fun K hK=>?_;simp only [go_sem,hw];apply hK;clear hK K))
    refine ⟨rfl,i + 1,?_,hlt,by omega⟩
    try simp only [go_sem,hs1]
    refine weA ?_ ?_ <;> simp
  ·have he:i=l.length:=by (have:¬ i<l.length:=by simpa using hb);omega
   subst he
   repeat (first | refine nx ?_ | (refine z3 fun K hK=>?_;simp only [go_sem];apply hK;clear hK K))
   simp only [go_sem,posL]
end Go.Ab
namespace Go.Ab
open Go.RowKit Go.Proofs
set_option maxHeartbeats 16000000
set_option maxRecDepth 20000
attribute [local irreducible] WalkL Walk
def bump1 (l:List Int) (i:Int):List Int:=l.set i.toNat (wr (getI l i + 1))
def tally (a:List Int × List Int) (e:EndT):List Int × List Int:=if e.pa<0 then (bump1 a.1 e.pl,a.2) else (a.1,bump1 a.2 e.pa)
def tallyE (n:Net) (E:List EndT):List Int × List Int:=E.foldl tally (List.replicate n.places.toNat 0,List.replicate n.paths.length 0)
def huntedA (n:Net) (x:Missed):List Arv:=(followF n x (boundN n x + 1) 0 (startA x,[])).1
def whereP (n:Net) (x:Missed):List Int:=posL (tallyE n (endsL n x (huntedA n x))).1
def whereW (n:Net) (x:Missed):List Int:=posL (tallyE n (endsL n x (huntedA n x))).2
def whereC (n:Net) (x:Missed):List Int × List Int × Int :=
 if openX n x≠0 then ([],[],openX n x) else if whereP n x=[]∧whereW n x=[] then ([],[],3) else (whereP n x,whereW n x,0)
def whereD (n:Net) (x:Missed):DV:=.tup [.sl (intRows (whereC n x).1),.sl (intRows (whereC n x).2.1),.i (whereC n x).2.2]
theorem z1111 (l:List Int) (i:Int):(bump1 l i).length=l.length:=by simp [bump1]
theorem z310 (a:List Int × List Int) (e:EndT):(tally a e).1.length=a.1.length∧(tally a e).2.length=a.2.length:=by
 rw [tally];split <;> simp [z1111]
theorem z133:∀ (E:List EndT) (a:List Int × List Int),(E.foldl tally a).1.length=a.1.length∧(E.foldl tally a).2.length=a.2.length
 | [],a=>⟨rfl,rfl⟩
 | e::E,a=>by
  have h:=z133 E (tally a e)
  rw [(z310 a e).1,(z310 a e).2] at h
  exact h
theorem z63 {n:Net} {x:Missed} (hl:x.clues.length<2 ^ 30) (h:openX n x=0):Hunted n x:=by
 have hc:checkPartyF n x.party=0:=by
  rw [openX] at h
  split at h
  ·rename_i h1;exact absurd h h1
  ·rename_i h1;exact Classical.not_not.1 h1
 have hb:badHunt n x=false:=by
  cases hb:badHunt n x
  ·rfl
  ·simp [openX,hc,hb] at h
 have hn:¬ badNet n=true:=fun hb=>by rw [checkPartyF,if_pos hb] at hc;simp at hc
 have hp:¬ badParty x.party=true:=fun hb=>by rw [checkPartyF,if_neg hn,if_pos hb] at hc;simp at hc
 simp only [badHunt,Bool.or_eq_false_iff,Bool.not_eq_false',z14] at hb
 obtain ⟨h1,h2,h3,h4⟩:=hb
 exact ⟨z156.1 hn,z177.1 hp,⟨h1.1,by omega⟩,⟨h2.1,h4.1⟩,h4.2,h3,hl⟩
theorem z462 {n:Net} {x:Missed} {lo hi:Int} {mk:Int→Arv} (hmk:∀ t,(0≤(mk t).pl∧(mk t).pl<n.places)∧(mk t).mi=t):∀ {ws:List (Int × Bool)} {A:List Arv},(∀ w ∈ ws,x.start≤w.1∧w.1≤x.now)→goodA n x A→goodA n x (walkA x.clues lo hi mk ws A)
 | [],A,_,hA=>hA
 | w::ws,A,hw,hA=>by
  rw [walkA]
  split
  ·exact hA
  ·refine z462 hmk (fun v hv=>hw v (by simp [hv])) ?_
   split
   ·have:=hmk w.1
    exact z70 hA ⟨this.1,by rw [this.2];exact (hw w (by simp))⟩
   ·exact hA
theorem z1005 {n:Net} {x:Missed} (hx:Hunted n x) {p m lv:Int} {A:List Arv} {k:Nat} (hlv:x.start≤lv) (hA:goodA n x A):goodA n x (pathA n x p m lv A k):=by
 rw [pathA]
 split
 ·rename_i y hy
  split
  ·refine z462 (fun t=>⟨(hx.net.path y (List.mem_of_getElem? hy)).to,rfl⟩) (fun w hw=>?_) hA
   have:=z269 hw
   omega
  ·exact hA
 ·exact hA
theorem z873 {n:Net} {x:Missed} (hx:Hunted n x) {p m lv:Int} {a:List Arv × List Cnt} (hlv:x.start≤lv) (hA:goodA n x a.1):goodA n x (leaveA n x p m a lv).1:=by
 rw [leaveA]
 split
 ·exact hA
 ·rw [pathsA]
  have:∀ (l:List Nat) (A:List Arv),goodA n x A→goodA n x (l.foldl (pathA n x p m lv) A):=fun l=>by
   induction l with
   | nil=>exact fun A h=>h
   | cons k l ih=>exact fun A h=>ih _ (z1005 hx hlv h)
  exact this _ _ hA
theorem z463 {n:Net} {x:Missed} (hx:Hunted n x) {s:Arv} {a:List Arv × List Cnt} (hs:x.start≤s.mi) (hA:goodA n x a.1):goodA n x (spotA n x s a).1:=by
 rw [spotA]
 have:∀ (l:List Int) (a:List Arv × List Cnt),(∀ v ∈ l,x.start≤v)→goodA n x a.1→goodA n x (l.foldl (leaveA n x s.pl s.mi) a).1:=fun l=>by
  induction l with
  | nil=>exact fun a _ h=>h
  | cons k l ih=>exact fun a hl h=>ih _ (fun v hv=>hl v (by simp [hv])) (z873 hx (hl k (by simp)) h)
 exact this _ _ (fun v hv=>by have:=z276 hv;omega) hA
theorem z286 {n:Net} {x:Missed} (hx:Hunted n x):∀ (f i:Nat) (a:List Arv × List Cnt),goodA n x a.1→goodA n x (followF n x f i a).1
 | 0,_,a,h=>h
 | f + 1,i,a,h=>by
  rw [followF]
  split
  ·rename_i s hs
   exact z286 hx f _ _ (z463 hx (h.1 s (List.mem_of_getElem? hs)).2.1 h)
  ·exact h
theorem z50 {n:Net} {x:Missed} (hx:Hunted n x):goodA n x (huntedA n x) :=
 z286 hx _ _ _ (z70 ⟨fun a ha=>(by simp at ha),by simp⟩ ⟨hx.place,Int.le_refl _,hx.start.2⟩)
theorem z265 {n:Net} {x:Missed} {A:List Arv} (hA:goodA n x A) {e:EndT} (h:e ∈ endsL n x A):(0≤e.pl∧e.pl<n.places)∧(e.pa<0∨0≤e.pa∧e.pa.toNat<n.paths.length):=by
 rw [endsL] at h
 obtain ⟨s,hs,h⟩:=List.mem_flatMap.1 h
 have hg:=(hA.1 s hs).1
 rw [endOf8] at h
 rcases List.mem_append.1 h with h | h
 ·obtain ⟨m,_,hm⟩:=List.mem_filterMap.1 h
  rw [endIn] at hm
  split at hm
  ·cases hm;exact ⟨hg,.inl (show (-1:Int)<0 by decide)⟩
  ·cases hm
 ·obtain ⟨lv,_,hm⟩:=List.mem_flatMap.1 h
  rw [endLv] at hm
  split at hm
  ·simp at hm
  ·obtain ⟨k,hk,hm⟩:=List.mem_filterMap.1 hm
   rw [endOn] at hm
   split at hm
   ·split at hm
    ·cases hm;exact ⟨hg,.inr ⟨Int.natCast_nonneg k,by simpa using List.mem_range.1 hk⟩⟩
    ·cases hm
   ·cases hm
theorem z1062 {h:DV} {A:List Arv}:∃ b,reify ((trkM h A).map some) Ab.deep (.box 0 0)=some (.ptr [h,b,.sl (arvRows A)] 0):=by
 refine ⟨_,rfl⟩
theorem z1338 (n:Net) (x:Missed) (hs:n.Small) (hl:x.clues.length<2 ^ 30):Fn Tryd.prog 15 [.agg n.cells,.agg x.row] (whereD n x):=by
 have h38:=z1335 n x hs hl
 rw [Net.cells,Missed.row] at h38
 refine z10 61 Tryd.call15 Tryd.func15 rfl (by decide) fun J=>?_
 simp only [go_sem,St.start,Tryd.ntmps15,Tryd.results15,Net.cells,Missed.row]
 by_cases hok:openX n x=0
 ·have hx:=z63 hl hok
  rw [openD,if_pos hok,hok] at h38
  obtain ⟨A,hA⟩:∃ A,A=huntedA n x:=⟨_,rfl⟩
  have hgA:goodA n x A:=hA ▸ z50 hx
  have g39:=z1334 n x hx
  rw [← huntedA,← hA] at g39
  obtain ⟨b,hb⟩:=z1062 (h:=.ptr (huntC n x) 0) (A:=A)
  have h39:=FnG.deep (args:=[.ptr (huntC n x) 0]) g39 hb
  have hit:=z1200 n x hx A b hgA
  have hpl:=hx.net.places
  have hpt:=hx.net.paths
  repeat (first | refine nx ?_ | (refine z3 fun K hK=>?_;simp only [go_sem];(repeat (first | (refine ⟨_,.lent (hf:=h38) (hd:=rfl) (hr:=rfl),?_⟩;simp only [go_sem]) | (refine ⟨_,.given (hf:=h38) (hd:=rfl) (ha:=rfl),?_⟩;simp only [go_sem])));apply hK;clear hK K))
  refine z6 rfl ?_
  repeat (first | refine nx ?_ | (refine z3 fun K hK=>?_;simp only [go_sem];apply hK;clear hK K))
  obtain ⟨m,hm⟩:∃ m:Nat,n.places=m:=⟨n.places.toNat,by omega⟩
  obtain ⟨E,hE⟩:∃ E,E=endsL n x A:=⟨_,rfl⟩
  rw [← hE] at hit
  have hrep:∀ k,List.replicate k [DV.int .i64 0]=intRows (List.replicate k 0):=fun k=>by simp [intRows]
  have q1:(m:Int)≤1099511627776:=by omega
  have q2:(n.paths.length:Int)≤1099511627776:=by omega
  have q3:¬ ((m:Int)<0):=by omega
  refine z8 (by kernel_rfl) (by kernel_rfl) fun K hK=>?_
  simp only [go_sem,hm,q1,q2,q3,hrep,List.length_map,true_and]
  refine ⟨by kernel_rfl,hK _ ?_⟩
  clear hK K
  repeat (first | refine nx ?_ | (refine z3 fun K hK=>?_;simp only [go_sem];(repeat (first | (refine ⟨_,.lent (hf:=h39) (hd:=rfl) (hr:=rfl),?_⟩;simp only [go_sem]) | (refine ⟨_,.given (hf:=h39) (hd:=rfl) (ha:=rfl),?_⟩;simp only [go_sem])));apply hK;clear hK K))
  refine z121 rfl hit (by intro row hr;obtain ⟨w,_,rfl⟩:=List.mem_map.1 hr;rfl) (fun _=>[]) (fun (a:List Int × List Int)=>[(22,some (.arr 3 1 (intRows a.1))),(26,some (.arr 3 1 (intRows a.2)))])
   (fun k' j a=>k'=some 0∧a=(E.take j).foldl tally (List.replicate m 0,List.replicate n.paths.length 0)) (fun _ _ _=>False) (List.replicate m 0,List.replicate n.paths.length 0) ?_ ⟨rfl,by simp⟩ ?_ ?_ (fun _ _ _ h=>h.elim)
  ·simp only [go_sem]
   refine weA ?_ ?_ <;> simp
  ·rintro X0 W0 k' j a row hj ⟨rfl,ha⟩ l1 m1
   obtain ⟨e,he,rfl⟩:∃ e,E[j]?=some e∧row=[.agg e.row]:=by
    simp only [endRows,List.getElem?_map,Option.map_eq_some_iff] at hj
    obtain ⟨e,h1,h2⟩:=hj
    exact ⟨e,h1,h2.symm⟩
   have hr:=z265 hgA (hE ▸ List.mem_of_getElem? he)
   have ha':(E.take (j + 1)).foldl tally (List.replicate m 0,List.replicate n.paths.length 0)=tally a e:=by rw [z37 _ _ _ _ _ he,← ha]
   have hl:=z133 (E.take j) (List.replicate m 0,List.replicate n.paths.length 0)
   rw [← ha] at hl
   simp only [List.length_replicate] at hl
   have hil:=z18 a.1
   have hil2:=z18 a.2
   rw [hl.1] at hil
   rw [hl.2] at hil2
   simp only [go_sem,EndT.row]
   by_cases hp:e.pa<0
   ·have hpb:decide (e.pa<0)=true:=decide_eq_true hp
    have h0:0≤e.pl:=hr.1.1
    have h1:e.pl.toNat<m:=by omega
    have hg:=z83 (l:=a.1) (i:=e.pl) hr.1.1 (by omega)
    repeat (first | refine nx ?_ | (refine z3 fun K hK=>?_;simp only [go_sem,hpb];apply hK;clear hK K))
    refine z9 rfl ?_
    repeat (first | refine nx ?_ | (refine z3 fun K hK=>?_;simp only [go_sem,hil,h0,h1,hg,z49];apply hK;clear hK K))
    refine ⟨(bump1 a.1 e.pl,a.2),?_,rfl,by rw [ha',tally,if_pos hp]⟩
    rw [bump1]
    refine weA ?_ ?_ <;> simp
   ·have hpb:decide (e.pa<0)=false:=decide_eq_false hp
    have h0:0≤e.pa:=by omega
    have h1:e.pa.toNat<n.paths.length:=by rcases hr.2 with h | h <;> omega
    have hg:=z83 (l:=a.2) (i:=e.pa) (by omega) (by omega)
    repeat (first | refine nx ?_ | (refine z3 fun K hK=>?_;simp only [go_sem,hpb];apply hK;clear hK K))
    refine z6 rfl ?_
    repeat (first | refine nx ?_ | (refine z3 fun K hK=>?_;simp only [go_sem,hil2,h0,h1,hg,z49];apply hK;clear hK K))
    refine ⟨(a.1,bump1 a.2 e.pa),?_,rfl,by rw [ha',tally,if_neg hp]⟩
    rw [bump1]
    refine weA ?_ ?_ <;> simp
  ·rintro k' a ⟨rfl,ha⟩
   rw [endRows,List.length_map,List.take_length] at ha
   have ht:tallyE n (endsL n x (huntedA n x))=a:=by rw [tallyE,← hA,← hE,ha,hm];rfl
   have hl:=z133 E (List.replicate m 0,List.replicate n.paths.length 0)
   rw [← ha] at hl
   simp only [List.length_replicate] at hl
   have hP:whereP n x=posL a.1:=by rw [whereP,ht]
   have hW:whereW n x=posL a.2:=by rw [whereW,ht]
   simp only [go_sem]
   repeat (first | refine z23 ?_ | refine z30 ?_ | refine z7 ?_ | refine z210 ?_ | refine z101 ?_ | refine z65 ?_ | refine z125 rfl ?_ | refine z111 ?_ | refine z58 ?_ | refine z132 ?_ | refine z103 ?_ | refine z4 ?_)
   have nz:∀ l:List Int,l≠[]→(intRows l).isEmpty=false:=fun l h=>by cases l <;> simp_all [intRows]
   by_cases p1:posL a.1=[]
   ·have zf1:=z1203 a.1 (by omega) p1
    by_cases p2:posL a.2=[]
    ·have zf2:=z1203 a.2 (by omega) p2
     have hw:whereD n x=.tup [.sl [],.sl [],.i 3]:=by rw [whereD,whereC,if_neg (fun h=>h hok),if_pos ⟨by rw [hP,p1],by rw [hW,p2]⟩];rfl
     rw [hw]
     refine z8 (by kernel_rfl) (by kernel_rfl) fun K hK=>?_
     simp only [go_sem]
     refine ⟨_,.fn (hf:=zf1) (hd:=rfl) (hr:=.inl rfl),?_⟩
     simp only [go_sem]
     refine ⟨_,.fn (hf:=zf2) (hd:=rfl) (hr:=.inl rfl),?_⟩
     simp only [go_sem]
     refine ⟨by kernel_rfl,hK _ ?_⟩
     clear hK K
     repeat (first | refine nx ?_ | (refine z3 fun K hK=>?_;simp only [go_sem];apply hK;clear hK K))
     refine z9 rfl ?_
     repeat (first | refine nx ?_ | (refine z3 fun K hK=>?_;simp only [go_sem];apply hK;clear hK K))
     simp only [go_sem,retN]
    ·have zf2:=z1202 a.2 (by omega)
     have hw:whereD n x=.tup [.sl [],.sl (intRows (posL a.2)),.i 0]:=by rw [whereD,whereC,if_neg (fun h=>h hok),if_neg (fun h=>p2 (by rw [← hW,h.2])),hP,p1,hW];rfl
     rw [hw]
     refine z8 (by kernel_rfl) (by kernel_rfl) fun K hK=>?_
     simp only [go_sem]
     refine ⟨_,.fn (hf:=zf1) (hd:=rfl) (hr:=.inl rfl),?_⟩
     simp only [go_sem]
     refine ⟨_,.fnS (hdst:=rfl) (hf:=zf2) (hd:=rfl) (hr:=.inl (z92 _)) (hfr:=rfl),?_⟩
     simp only [go_sem]
     refine ⟨by kernel_rfl,hK _ ?_⟩
     clear hK K
     refine z142 [52] ?_
     simp only [go_sem]
     repeat (first | refine nx ?_ | (refine z3 fun K hK=>?_;simp only [go_sem,nz _ p2];apply hK;clear hK K))
     refine z6 rfl ?_
     refine z30 ?_
     refine z431 4 ?_
     simp only [go_sem]
     repeat (first | refine nx ?_ | (refine z3 fun K hK=>?_;simp only [go_sem];apply hK;clear hK K))
     simp only [go_sem,retN]
   ·have zf1:=z1202 a.1 (by omega)
    by_cases p2:posL a.2=[]
    ·have zf2:=z1203 a.2 (by omega) p2
     have hw:whereD n x=.tup [.sl (intRows (posL a.1)),.sl [],.i 0]:=by rw [whereD,whereC,if_neg (fun h=>h hok),if_neg (fun h=>p1 (by rw [← hP,h.1])),hP,hW,p2];rfl
     rw [hw]
     refine z8 (by kernel_rfl) (by kernel_rfl) fun K hK=>?_
     simp only [go_sem]
     refine ⟨_,.fnS (hdst:=rfl) (hf:=zf1) (hd:=rfl) (hr:=.inl (z92 _)) (hfr:=rfl),?_⟩
     simp only [go_sem]
     refine ⟨_,.fn (hf:=zf2) (hd:=rfl) (hr:=.inl rfl),?_⟩
     simp only [go_sem]
     refine ⟨by kernel_rfl,hK _ ?_⟩
     clear hK K
     refine z142 [50] ?_
     simp only [go_sem]
     repeat (first | refine nx ?_ | (refine z3 fun K hK=>?_;simp only [go_sem,nz _ p1];apply hK;clear hK K))
     refine z6 rfl ?_
     refine z30 ?_
     refine z431 5 ?_
     simp only [go_sem]
     repeat (first | refine nx ?_ | (refine z3 fun K hK=>?_;simp only [go_sem];apply hK;clear hK K))
     simp only [go_sem,retN]
    ·have zf2:=z1202 a.2 (by omega)
     have hw:whereD n x=.tup [.sl (intRows (posL a.1)),.sl (intRows (posL a.2)),.i 0]:=by rw [whereD,whereC,if_neg (fun h=>h hok),if_neg (fun h=>p1 (by rw [← hP,h.1])),hP,hW]
     rw [hw]
     refine z8 (by kernel_rfl) (by kernel_rfl) fun K hK=>?_
     simp only [go_sem]
     refine ⟨_,.fnS (hdst:=rfl) (hf:=zf1) (hd:=rfl) (hr:=.inl (z92 _)) (hfr:=rfl),?_⟩
     simp only [go_sem]
     refine ⟨_,.fnS (hdst:=rfl) (hf:=zf2) (hd:=rfl) (hr:=.inl (z92 _)) (hfr:=rfl),?_⟩
     simp only [go_sem]
     refine ⟨by kernel_rfl,hK _ ?_⟩
     clear hK K
     refine z142 [50,52] ?_
     simp only [go_sem]
     repeat (first | refine nx ?_ | (refine z3 fun K hK=>?_;simp only [go_sem,nz _ p1,nz _ p2];apply hK;clear hK K))
     refine z6 rfl ?_
     repeat (first | refine nx ?_ | (refine z3 fun K hK=>?_;simp only [go_sem];apply hK;clear hK K))
     simp only [go_sem,retN]
 ·rw [openD,if_neg hok] at h38
  have hne:(openX n x != 0)=true:=by simpa using hok
  have hw:whereD n x=.tup [.sl [],.sl [],.i (openX n x)]:=by rw [whereD,whereC,if_pos hok];rfl
  rw [hw]
  repeat (first | refine nx ?_ | (refine z3 fun K hK=>?_;simp only [go_sem,hne];(repeat (first | (refine ⟨_,.lent (hf:=h38) (hd:=rfl) (hr:=rfl),?_⟩;simp only [go_sem,hne]) | (refine ⟨_,.given (hf:=h38) (hd:=rfl) (ha:=rfl),?_⟩;simp only [go_sem,hne])));apply hK;clear hK K))
  refine z9 rfl ?_
  repeat (first | refine nx ?_ | (refine z3 fun K hK=>?_;simp only [go_sem];apply hK;clear hK K))
  simp only [go_sem,retN]
end Go.Ab
namespace Go.Ab
open Go.RowKit Go.Proofs
set_option maxRecDepth 100000
deriving instance DecidableEq for Arv
deriving instance DecidableEq for Cnt
def goF (n:Net) (x:Missed):Nat→Nat→List Arv × List Cnt→List Arv × List Cnt
 | 0,_,a=>a
 | k + 1,i,a=>match a.1[i]? with
  | some s=>goF n x k (i + 1) (spotA n x s a)
  | none=>a
theorem z287 {n:Net} {x:Missed} {i:Nat} {a:List Arv × List Cnt} (h:a.1[i]?=none):∀ f,followF n x f i a=a
 | 0=>rfl
 | f + 1=>by rw [followF,h]
theorem z28 {n:Net} {x:Missed}:∀ (k i f:Nat) (a:List Arv × List Cnt),followF n x (f + k) i a=followF n x f (i + k) (goF n x k i a)
 | 0,i,f,a=>rfl
 | k + 1,i,f,a=>by
  rw [show f + (k + 1)=(f + k) + 1 by omega,followF,goF]
  cases h:a.1[i]? with
  | some s=>dsimp only;rw [z28 k (i + 1) f,show i + 1 + k=i + (k + 1) by omega]
  | none=>dsimp only;rw [z287 (List.getElem?_eq_none (by have:=List.getElem?_eq_none_iff.1 h;omega))]
def ex0:List Arv × List Cnt:=([⟨0,300,0,0,-1,0⟩],[])
def ex8:List Arv × List Cnt:=([⟨0,300,0,0,-1,0⟩,⟨1,400,0,300,0,300⟩,⟨1,401,0,300,0,300⟩,⟨1,402,0,300,0,300⟩,⟨1,403,0,300,0,300⟩,⟨1,404,0,300,0,300⟩,⟨1,405,0,300,0,300⟩,⟨1,406,0,300,0,300⟩,⟨1,407,0,300,0,300⟩,⟨1,408,0,300,0,300⟩,⟨1,409,0,300,0,300⟩,⟨1,410,0,300,0,300⟩,⟨1,411,0,300,0,300⟩,⟨1,412,0,300,0,300⟩,⟨1,413,0,300,0,300⟩,⟨1,414,0,300,0,300⟩,⟨1,415,0,300,0,300⟩,⟨1,416,0,300,0,300⟩,⟨1,417,0,300,0,300⟩,⟨1,418,0,300,0,300⟩,⟨1,419,0,300,0,300⟩,⟨1,420,0,300,0,300⟩,⟨2,492,1,400,1,420⟩,⟨2,493,1,400,1,420⟩,⟨2,494,1,400,1,420⟩,⟨2,495,1,400,1,420⟩,⟨2,496,1,400,1,420⟩,⟨2,497,1,400,1,420⟩,⟨2,498,1,400,1,420⟩,⟨2,499,1,400,1,420⟩,⟨2,501,1,400,1,420⟩,⟨2,502,1,400,1,420⟩,⟨2,503,1,400,1,420⟩,⟨2,504,1,400,1,420⟩,⟨2,505,1,400,1,420⟩,⟨2,506,1,400,1,420⟩,⟨2,507,1,400,1,420⟩,⟨2,508,1,400,1,420⟩,⟨2,509,1,400,1,420⟩,⟨2,510,1,400,1,420⟩,⟨2,511,1,400,1,420⟩,⟨2,512,1,400,1,420⟩,⟨2,513,1,400,1,420⟩,⟨2,514,1,400,1,420⟩,⟨2,515,1,400,1,420⟩,⟨2,516,1,400,1,420⟩,⟨2,517,1,400,1,420⟩,⟨2,518,1,400,1,420⟩,⟨2,519,1,400,1,420⟩,⟨2,520,1,400,1,420⟩,⟨2,521,1,400,1,420⟩,⟨2,522,1,400,1,420⟩,⟨2,523,1,400,1,420⟩,⟨2,524,1,400,1,420⟩,⟨2,525,1,400,1,420⟩,⟨2,526,1,400,1,420⟩,⟨2,527,1,400,1,420⟩,⟨2,528,1,400,1,420⟩,⟨2,529,1,400,1,420⟩,⟨2,530,1,400,1,420⟩,⟨2,531,1,400,1,420⟩,⟨2,532,1,400,1,420⟩,⟨2,533,1,400,1,420⟩,⟨2,534,1,400,1,420⟩,⟨2,535,1,400,1,420⟩,⟨2,536,1,400,1,420⟩,⟨2,537,1,400,1,420⟩,⟨2,538,1,400,1,420⟩,⟨2,539,1,400,1,420⟩,⟨2,540,1,400,1,420⟩,⟨2,541,1,400,1,420⟩,⟨2,542,1,400,1,420⟩,⟨2,543,1,400,1,420⟩,⟨2,544,1,400,1,420⟩,⟨2,545,1,400,1,420⟩,⟨2,546,1,400,1,420⟩,⟨2,547,1,400,1,420⟩,⟨2,548,1,400,1,420⟩,⟨2,549,1,400,1,420⟩,⟨2,550,1,400,1,420⟩,⟨2,551,1,400,1,420⟩,⟨2,552,1,400,1,420⟩,⟨2,553,1,400,1,420⟩,⟨2,554,1,400,1,420⟩,⟨2,555,1,400,1,420⟩,⟨2,556,1,400,1,421⟩,⟨2,557,1,400,1,422⟩,⟨2,558,1,400,1,423⟩,⟨2,559,1,400,1,424⟩],[⟨0,300,1⟩,⟨0,301,1⟩,⟨0,302,1⟩,⟨0,303,1⟩,⟨0,304,1⟩,⟨0,305,1⟩,⟨0,306,1⟩,⟨0,307,1⟩,⟨0,308,1⟩,⟨0,309,1⟩,⟨0,310,1⟩,⟨0,311,1⟩,⟨0,312,1⟩,⟨0,313,1⟩,⟨0,314,1⟩,⟨0,315,1⟩,⟨0,316,1⟩,⟨0,317,1⟩,⟨0,318,1⟩,⟨0,319,1⟩,⟨0,320,1⟩,⟨0,321,1⟩,⟨0,322,1⟩,⟨0,323,1⟩,⟨0,324,1⟩,⟨0,325,1⟩,⟨0,326,1⟩,⟨0,327,1⟩,⟨0,328,1⟩,⟨0,329,1⟩,⟨0,330,1⟩,⟨1,400,1⟩,⟨1,401,2⟩,⟨1,402,3⟩,⟨1,403,4⟩,⟨1,404,5⟩,⟨1,405,6⟩,⟨1,406,7⟩,⟨1,407,7⟩,⟨1,408,7⟩,⟨1,409,7⟩,⟨1,410,7⟩,⟨1,411,7⟩,⟨1,412,7⟩,⟨1,413,7⟩,⟨1,414,7⟩,⟨1,415,7⟩,⟨1,416,7⟩,⟨1,417,7⟩,⟨1,418,7⟩,⟨1,419,7⟩,⟨1,420,7⟩,⟨1,421,7⟩,⟨1,422,7⟩,⟨1,423,7⟩,⟨1,424,7⟩,⟨1,425,7⟩,⟨1,426,7⟩,⟨1,427,7⟩,⟨1,428,7⟩,⟨1,429,7⟩,⟨1,430,7⟩,⟨1,431,6⟩,⟨1,432,5⟩,⟨1,433,4⟩,⟨1,434,3⟩,⟨1,435,2⟩,⟨1,436,1⟩])
def ex16:List Arv × List Cnt:=([⟨0,300,0,0,-1,0⟩,⟨1,400,0,300,0,300⟩,⟨1,401,0,300,0,300⟩,⟨1,402,0,300,0,300⟩,⟨1,403,0,300,0,300⟩,⟨1,404,0,300,0,300⟩,⟨1,405,0,300,0,300⟩,⟨1,406,0,300,0,300⟩,⟨1,407,0,300,0,300⟩,⟨1,408,0,300,0,300⟩,⟨1,409,0,300,0,300⟩,⟨1,410,0,300,0,300⟩,⟨1,411,0,300,0,300⟩,⟨1,412,0,300,0,300⟩,⟨1,413,0,300,0,300⟩,⟨1,414,0,300,0,300⟩,⟨1,415,0,300,0,300⟩,⟨1,416,0,300,0,300⟩,⟨1,417,0,300,0,300⟩,⟨1,418,0,300,0,300⟩,⟨1,419,0,300,0,300⟩,⟨1,420,0,300,0,300⟩,⟨2,492,1,400,1,420⟩,⟨2,493,1,400,1,420⟩,⟨2,494,1,400,1,420⟩,⟨2,495,1,400,1,420⟩,⟨2,496,1,400,1,420⟩,⟨2,497,1,400,1,420⟩,⟨2,498,1,400,1,420⟩,⟨2,499,1,400,1,420⟩,⟨2,501,1,400,1,420⟩,⟨2,502,1,400,1,420⟩,⟨2,503,1,400,1,420⟩,⟨2,504,1,400,1,420⟩,⟨2,505,1,400,1,420⟩,⟨2,506,1,400,1,420⟩,⟨2,507,1,400,1,420⟩,⟨2,508,1,400,1,420⟩,⟨2,509,1,400,1,420⟩,⟨2,510,1,400,1,420⟩,⟨2,511,1,400,1,420⟩,⟨2,512,1,400,1,420⟩,⟨2,513,1,400,1,420⟩,⟨2,514,1,400,1,420⟩,⟨2,515,1,400,1,420⟩,⟨2,516,1,400,1,420⟩,⟨2,517,1,400,1,420⟩,⟨2,518,1,400,1,420⟩,⟨2,519,1,400,1,420⟩,⟨2,520,1,400,1,420⟩,⟨2,521,1,400,1,420⟩,⟨2,522,1,400,1,420⟩,⟨2,523,1,400,1,420⟩,⟨2,524,1,400,1,420⟩,⟨2,525,1,400,1,420⟩,⟨2,526,1,400,1,420⟩,⟨2,527,1,400,1,420⟩,⟨2,528,1,400,1,420⟩,⟨2,529,1,400,1,420⟩,⟨2,530,1,400,1,420⟩,⟨2,531,1,400,1,420⟩,⟨2,532,1,400,1,420⟩,⟨2,533,1,400,1,420⟩,⟨2,534,1,400,1,420⟩,⟨2,535,1,400,1,420⟩,⟨2,536,1,400,1,420⟩,⟨2,537,1,400,1,420⟩,⟨2,538,1,400,1,420⟩,⟨2,539,1,400,1,420⟩,⟨2,540,1,400,1,420⟩,⟨2,541,1,400,1,420⟩,⟨2,542,1,400,1,420⟩,⟨2,543,1,400,1,420⟩,⟨2,544,1,400,1,420⟩,⟨2,545,1,400,1,420⟩,⟨2,546,1,400,1,420⟩,⟨2,547,1,400,1,420⟩,⟨2,548,1,400,1,420⟩,⟨2,549,1,400,1,420⟩,⟨2,550,1,400,1,420⟩,⟨2,551,1,400,1,420⟩,⟨2,552,1,400,1,420⟩,⟨2,553,1,400,1,420⟩,⟨2,554,1,400,1,420⟩,⟨2,555,1,400,1,420⟩,⟨2,556,1,400,1,421⟩,⟨2,557,1,400,1,422⟩,⟨2,558,1,400,1,423⟩,⟨2,559,1,400,1,424⟩],[⟨0,300,1⟩,⟨0,301,1⟩,⟨0,302,1⟩,⟨0,303,1⟩,⟨0,304,1⟩,⟨0,305,1⟩,⟨0,306,1⟩,⟨0,307,1⟩,⟨0,308,1⟩,⟨0,309,1⟩,⟨0,310,1⟩,⟨0,311,1⟩,⟨0,312,1⟩,⟨0,313,1⟩,⟨0,314,1⟩,⟨0,315,1⟩,⟨0,316,1⟩,⟨0,317,1⟩,⟨0,318,1⟩,⟨0,319,1⟩,⟨0,320,1⟩,⟨0,321,1⟩,⟨0,322,1⟩,⟨0,323,1⟩,⟨0,324,1⟩,⟨0,325,1⟩,⟨0,326,1⟩,⟨0,327,1⟩,⟨0,328,1⟩,⟨0,329,1⟩,⟨0,330,1⟩,⟨1,400,1⟩,⟨1,401,2⟩,⟨1,402,3⟩,⟨1,403,4⟩,⟨1,404,5⟩,⟨1,405,6⟩,⟨1,406,7⟩,⟨1,407,8⟩,⟨1,408,9⟩,⟨1,409,10⟩,⟨1,410,11⟩,⟨1,411,12⟩,⟨1,412,13⟩,⟨1,413,14⟩,⟨1,414,15⟩,⟨1,415,15⟩,⟨1,416,15⟩,⟨1,417,15⟩,⟨1,418,15⟩,⟨1,419,15⟩,⟨1,420,15⟩,⟨1,421,15⟩,⟨1,422,15⟩,⟨1,423,15⟩,⟨1,424,15⟩,⟨1,425,15⟩,⟨1,426,15⟩,⟨1,427,15⟩,⟨1,428,15⟩,⟨1,429,15⟩,⟨1,430,15⟩,⟨1,431,14⟩,⟨1,432,13⟩,⟨1,433,12⟩,⟨1,434,11⟩,⟨1,435,10⟩,⟨1,436,9⟩,⟨1,437,8⟩,⟨1,438,7⟩,⟨1,439,6⟩,⟨1,440,5⟩,⟨1,441,4⟩,⟨1,442,3⟩,⟨1,443,2⟩,⟨1,444,1⟩])
def ex24:List Arv × List Cnt:=([⟨0,300,0,0,-1,0⟩,⟨1,400,0,300,0,300⟩,⟨1,401,0,300,0,300⟩,⟨1,402,0,300,0,300⟩,⟨1,403,0,300,0,300⟩,⟨1,404,0,300,0,300⟩,⟨1,405,0,300,0,300⟩,⟨1,406,0,300,0,300⟩,⟨1,407,0,300,0,300⟩,⟨1,408,0,300,0,300⟩,⟨1,409,0,300,0,300⟩,⟨1,410,0,300,0,300⟩,⟨1,411,0,300,0,300⟩,⟨1,412,0,300,0,300⟩,⟨1,413,0,300,0,300⟩,⟨1,414,0,300,0,300⟩,⟨1,415,0,300,0,300⟩,⟨1,416,0,300,0,300⟩,⟨1,417,0,300,0,300⟩,⟨1,418,0,300,0,300⟩,⟨1,419,0,300,0,300⟩,⟨1,420,0,300,0,300⟩,⟨2,492,1,400,1,420⟩,⟨2,493,1,400,1,420⟩,⟨2,494,1,400,1,420⟩,⟨2,495,1,400,1,420⟩,⟨2,496,1,400,1,420⟩,⟨2,497,1,400,1,420⟩,⟨2,498,1,400,1,420⟩,⟨2,499,1,400,1,420⟩,⟨2,501,1,400,1,420⟩,⟨2,502,1,400,1,420⟩,⟨2,503,1,400,1,420⟩,⟨2,504,1,400,1,420⟩,⟨2,505,1,400,1,420⟩,⟨2,506,1,400,1,420⟩,⟨2,507,1,400,1,420⟩,⟨2,508,1,400,1,420⟩,⟨2,509,1,400,1,420⟩,⟨2,510,1,400,1,420⟩,⟨2,511,1,400,1,420⟩,⟨2,512,1,400,1,420⟩,⟨2,513,1,400,1,420⟩,⟨2,514,1,400,1,420⟩,⟨2,515,1,400,1,420⟩,⟨2,516,1,400,1,420⟩,⟨2,517,1,400,1,420⟩,⟨2,518,1,400,1,420⟩,⟨2,519,1,400,1,420⟩,⟨2,520,1,400,1,420⟩,⟨2,521,1,400,1,420⟩,⟨2,522,1,400,1,420⟩,⟨2,523,1,400,1,420⟩,⟨2,524,1,400,1,420⟩,⟨2,525,1,400,1,420⟩,⟨2,526,1,400,1,420⟩,⟨2,527,1,400,1,420⟩,⟨2,528,1,400,1,420⟩,⟨2,529,1,400,1,420⟩,⟨2,530,1,400,1,420⟩,⟨2,531,1,400,1,420⟩,⟨2,532,1,400,1,420⟩,⟨2,533,1,400,1,420⟩,⟨2,534,1,400,1,420⟩,⟨2,535,1,400,1,420⟩,⟨2,536,1,400,1,420⟩,⟨2,537,1,400,1,420⟩,⟨2,538,1,400,1,420⟩,⟨2,539,1,400,1,420⟩,⟨2,540,1,400,1,420⟩,⟨2,541,1,400,1,420⟩,⟨2,542,1,400,1,420⟩,⟨2,543,1,400,1,420⟩,⟨2,544,1,400,1,420⟩,⟨2,545,1,400,1,420⟩,⟨2,546,1,400,1,420⟩,⟨2,547,1,400,1,420⟩,⟨2,548,1,400,1,420⟩,⟨2,549,1,400,1,420⟩,⟨2,550,1,400,1,420⟩,⟨2,551,1,400,1,420⟩,⟨2,552,1,400,1,420⟩,⟨2,553,1,400,1,420⟩,⟨2,554,1,400,1,420⟩,⟨2,555,1,400,1,420⟩,⟨2,556,1,400,1,421⟩,⟨2,557,1,400,1,422⟩,⟨2,558,1,400,1,423⟩,⟨2,559,1,400,1,424⟩,⟨3,552,2,492,2,492⟩,⟨3,553,2,492,2,493⟩,⟨3,554,2,492,2,494⟩,⟨3,555,2,492,2,495⟩,⟨3,556,2,492,2,496⟩,⟨3,557,2,492,2,497⟩,⟨3,558,2,492,2,498⟩,⟨3,559,2,492,2,499⟩],[⟨0,300,1⟩,⟨0,301,1⟩,⟨0,302,1⟩,⟨0,303,1⟩,⟨0,304,1⟩,⟨0,305,1⟩,⟨0,306,1⟩,⟨0,307,1⟩,⟨0,308,1⟩,⟨0,309,1⟩,⟨0,310,1⟩,⟨0,311,1⟩,⟨0,312,1⟩,⟨0,313,1⟩,⟨0,314,1⟩,⟨0,315,1⟩,⟨0,316,1⟩,⟨0,317,1⟩,⟨0,318,1⟩,⟨0,319,1⟩,⟨0,320,1⟩,⟨0,321,1⟩,⟨0,322,1⟩,⟨0,323,1⟩,⟨0,324,1⟩,⟨0,325,1⟩,⟨0,326,1⟩,⟨0,327,1⟩,⟨0,328,1⟩,⟨0,329,1⟩,⟨0,330,1⟩,⟨1,400,1⟩,⟨1,401,2⟩,⟨1,402,3⟩,⟨1,403,4⟩,⟨1,404,5⟩,⟨1,405,6⟩,⟨1,406,7⟩,⟨1,407,8⟩,⟨1,408,9⟩,⟨1,409,10⟩,⟨1,410,11⟩,⟨1,411,12⟩,⟨1,412,13⟩,⟨1,413,14⟩,⟨1,414,15⟩,⟨1,415,16⟩,⟨1,416,17⟩,⟨1,417,18⟩,⟨1,418,19⟩,⟨1,419,20⟩,⟨1,420,21⟩,⟨1,421,21⟩,⟨1,422,21⟩,⟨1,423,21⟩,⟨1,424,21⟩,⟨1,425,21⟩,⟨1,426,21⟩,⟨1,427,21⟩,⟨1,428,21⟩,⟨1,429,21⟩,⟨1,430,21⟩,⟨1,431,20⟩,⟨1,432,19⟩,⟨1,433,18⟩,⟨1,434,17⟩,⟨1,435,16⟩,⟨1,436,15⟩,⟨1,437,14⟩,⟨1,438,13⟩,⟨1,439,12⟩,⟨1,440,11⟩,⟨1,441,10⟩,⟨1,442,9⟩,⟨1,443,8⟩,⟨1,444,7⟩,⟨1,445,6⟩,⟨1,446,5⟩,⟨1,447,4⟩,⟨1,448,3⟩,⟨1,449,2⟩,⟨1,450,1⟩,⟨2,492,1⟩,⟨2,493,2⟩,⟨2,494,2⟩,⟨2,495,2⟩,⟨2,496,2⟩,⟨2,497,2⟩,⟨2,498,2⟩,⟨2,499,2⟩])
def ex32:List Arv × List Cnt:=([⟨0,300,0,0,-1,0⟩,⟨1,400,0,300,0,300⟩,⟨1,401,0,300,0,300⟩,⟨1,402,0,300,0,300⟩,⟨1,403,0,300,0,300⟩,⟨1,404,0,300,0,300⟩,⟨1,405,0,300,0,300⟩,⟨1,406,0,300,0,300⟩,⟨1,407,0,300,0,300⟩,⟨1,408,0,300,0,300⟩,⟨1,409,0,300,0,300⟩,⟨1,410,0,300,0,300⟩,⟨1,411,0,300,0,300⟩,⟨1,412,0,300,0,300⟩,⟨1,413,0,300,0,300⟩,⟨1,414,0,300,0,300⟩,⟨1,415,0,300,0,300⟩,⟨1,416,0,300,0,300⟩,⟨1,417,0,300,0,300⟩,⟨1,418,0,300,0,300⟩,⟨1,419,0,300,0,300⟩,⟨1,420,0,300,0,300⟩,⟨2,492,1,400,1,420⟩,⟨2,493,1,400,1,420⟩,⟨2,494,1,400,1,420⟩,⟨2,495,1,400,1,420⟩,⟨2,496,1,400,1,420⟩,⟨2,497,1,400,1,420⟩,⟨2,498,1,400,1,420⟩,⟨2,499,1,400,1,420⟩,⟨2,501,1,400,1,420⟩,⟨2,502,1,400,1,420⟩,⟨2,503,1,400,1,420⟩,⟨2,504,1,400,1,420⟩,⟨2,505,1,400,1,420⟩,⟨2,506,1,400,1,420⟩,⟨2,507,1,400,1,420⟩,⟨2,508,1,400,1,420⟩,⟨2,509,1,400,1,420⟩,⟨2,510,1,400,1,420⟩,⟨2,511,1,400,1,420⟩,⟨2,512,1,400,1,420⟩,⟨2,513,1,400,1,420⟩,⟨2,514,1,400,1,420⟩,⟨2,515,1,400,1,420⟩,⟨2,516,1,400,1,420⟩,⟨2,517,1,400,1,420⟩,⟨2,518,1,400,1,420⟩,⟨2,519,1,400,1,420⟩,⟨2,520,1,400,1,420⟩,⟨2,521,1,400,1,420⟩,⟨2,522,1,400,1,420⟩,⟨2,523,1,400,1,420⟩,⟨2,524,1,400,1,420⟩,⟨2,525,1,400,1,420⟩,⟨2,526,1,400,1,420⟩,⟨2,527,1,400,1,420⟩,⟨2,528,1,400,1,420⟩,⟨2,529,1,400,1,420⟩,⟨2,530,1,400,1,420⟩,⟨2,531,1,400,1,420⟩,⟨2,532,1,400,1,420⟩,⟨2,533,1,400,1,420⟩,⟨2,534,1,400,1,420⟩,⟨2,535,1,400,1,420⟩,⟨2,536,1,400,1,420⟩,⟨2,537,1,400,1,420⟩,⟨2,538,1,400,1,420⟩,⟨2,539,1,400,1,420⟩,⟨2,540,1,400,1,420⟩,⟨2,541,1,400,1,420⟩,⟨2,542,1,400,1,420⟩,⟨2,543,1,400,1,420⟩,⟨2,544,1,400,1,420⟩,⟨2,545,1,400,1,420⟩,⟨2,546,1,400,1,420⟩,⟨2,547,1,400,1,420⟩,⟨2,548,1,400,1,420⟩,⟨2,549,1,400,1,420⟩,⟨2,550,1,400,1,420⟩,⟨2,551,1,400,1,420⟩,⟨2,552,1,400,1,420⟩,⟨2,553,1,400,1,420⟩,⟨2,554,1,400,1,420⟩,⟨2,555,1,400,1,420⟩,⟨2,556,1,400,1,421⟩,⟨2,557,1,400,1,422⟩,⟨2,558,1,400,1,423⟩,⟨2,559,1,400,1,424⟩,⟨3,552,2,492,2,492⟩,⟨3,553,2,492,2,493⟩,⟨3,554,2,492,2,494⟩,⟨3,555,2,492,2,495⟩,⟨3,556,2,492,2,496⟩,⟨3,557,2,492,2,497⟩,⟨3,558,2,492,2,498⟩,⟨3,559,2,492,2,499⟩],[⟨0,300,1⟩,⟨0,301,1⟩,⟨0,302,1⟩,⟨0,303,1⟩,⟨0,304,1⟩,⟨0,305,1⟩,⟨0,306,1⟩,⟨0,307,1⟩,⟨0,308,1⟩,⟨0,309,1⟩,⟨0,310,1⟩,⟨0,311,1⟩,⟨0,312,1⟩,⟨0,313,1⟩,⟨0,314,1⟩,⟨0,315,1⟩,⟨0,316,1⟩,⟨0,317,1⟩,⟨0,318,1⟩,⟨0,319,1⟩,⟨0,320,1⟩,⟨0,321,1⟩,⟨0,322,1⟩,⟨0,323,1⟩,⟨0,324,1⟩,⟨0,325,1⟩,⟨0,326,1⟩,⟨0,327,1⟩,⟨0,328,1⟩,⟨0,329,1⟩,⟨0,330,1⟩,⟨1,400,1⟩,⟨1,401,2⟩,⟨1,402,3⟩,⟨1,403,4⟩,⟨1,404,5⟩,⟨1,405,6⟩,⟨1,406,7⟩,⟨1,407,8⟩,⟨1,408,9⟩,⟨1,409,10⟩,⟨1,410,11⟩,⟨1,411,12⟩,⟨1,412,13⟩,⟨1,413,14⟩,⟨1,414,15⟩,⟨1,415,16⟩,⟨1,416,17⟩,⟨1,417,18⟩,⟨1,418,19⟩,⟨1,419,20⟩,⟨1,420,21⟩,⟨1,421,21⟩,⟨1,422,21⟩,⟨1,423,21⟩,⟨1,424,21⟩,⟨1,425,21⟩,⟨1,426,21⟩,⟨1,427,21⟩,⟨1,428,21⟩,⟨1,429,21⟩,⟨1,430,21⟩,⟨1,431,20⟩,⟨1,432,19⟩,⟨1,433,18⟩,⟨1,434,17⟩,⟨1,435,16⟩,⟨1,436,15⟩,⟨1,437,14⟩,⟨1,438,13⟩,⟨1,439,12⟩,⟨1,440,11⟩,⟨1,441,10⟩,⟨1,442,9⟩,⟨1,443,8⟩,⟨1,444,7⟩,⟨1,445,6⟩,⟨1,446,5⟩,⟨1,447,4⟩,⟨1,448,3⟩,⟨1,449,2⟩,⟨1,450,1⟩,⟨2,492,1⟩,⟨2,493,2⟩,⟨2,494,3⟩,⟨2,495,4⟩,⟨2,496,5⟩,⟨2,497,6⟩,⟨2,498,7⟩,⟨2,499,8⟩,⟨2,501,1⟩,⟨2,502,2⟩,⟨2,503,2⟩,⟨2,504,2⟩,⟨2,505,2⟩,⟨2,506,2⟩,⟨2,507,2⟩,⟨2,508,2⟩,⟨2,509,2⟩,⟨2,510,2⟩,⟨2,511,2⟩,⟨2,512,2⟩,⟨2,513,2⟩,⟨2,514,2⟩,⟨2,515,2⟩,⟨2,516,2⟩,⟨2,517,2⟩,⟨2,518,2⟩,⟨2,519,2⟩,⟨2,520,2⟩,⟨2,521,2⟩,⟨2,522,2⟩,⟨2,523,2⟩,⟨2,524,2⟩,⟨2,525,2⟩,⟨2,526,2⟩,⟨2,527,2⟩,⟨2,528,2⟩,⟨2,529,2⟩,⟨2,530,2⟩,⟨2,531,2⟩,⟨2,532,1⟩])
def ex40:List Arv × List Cnt:=([⟨0,300,0,0,-1,0⟩,⟨1,400,0,300,0,300⟩,⟨1,401,0,300,0,300⟩,⟨1,402,0,300,0,300⟩,⟨1,403,0,300,0,300⟩,⟨1,404,0,300,0,300⟩,⟨1,405,0,300,0,300⟩,⟨1,406,0,300,0,300⟩,⟨1,407,0,300,0,300⟩,⟨1,408,0,300,0,300⟩,⟨1,409,0,300,0,300⟩,⟨1,410,0,300,0,300⟩,⟨1,411,0,300,0,300⟩,⟨1,412,0,300,0,300⟩,⟨1,413,0,300,0,300⟩,⟨1,414,0,300,0,300⟩,⟨1,415,0,300,0,300⟩,⟨1,416,0,300,0,300⟩,⟨1,417,0,300,0,300⟩,⟨1,418,0,300,0,300⟩,⟨1,419,0,300,0,300⟩,⟨1,420,0,300,0,300⟩,⟨2,492,1,400,1,420⟩,⟨2,493,1,400,1,420⟩,⟨2,494,1,400,1,420⟩,⟨2,495,1,400,1,420⟩,⟨2,496,1,400,1,420⟩,⟨2,497,1,400,1,420⟩,⟨2,498,1,400,1,420⟩,⟨2,499,1,400,1,420⟩,⟨2,501,1,400,1,420⟩,⟨2,502,1,400,1,420⟩,⟨2,503,1,400,1,420⟩,⟨2,504,1,400,1,420⟩,⟨2,505,1,400,1,420⟩,⟨2,506,1,400,1,420⟩,⟨2,507,1,400,1,420⟩,⟨2,508,1,400,1,420⟩,⟨2,509,1,400,1,420⟩,⟨2,510,1,400,1,420⟩,⟨2,511,1,400,1,420⟩,⟨2,512,1,400,1,420⟩,⟨2,513,1,400,1,420⟩,⟨2,514,1,400,1,420⟩,⟨2,515,1,400,1,420⟩,⟨2,516,1,400,1,420⟩,⟨2,517,1,400,1,420⟩,⟨2,518,1,400,1,420⟩,⟨2,519,1,400,1,420⟩,⟨2,520,1,400,1,420⟩,⟨2,521,1,400,1,420⟩,⟨2,522,1,400,1,420⟩,⟨2,523,1,400,1,420⟩,⟨2,524,1,400,1,420⟩,⟨2,525,1,400,1,420⟩,⟨2,526,1,400,1,420⟩,⟨2,527,1,400,1,420⟩,⟨2,528,1,400,1,420⟩,⟨2,529,1,400,1,420⟩,⟨2,530,1,400,1,420⟩,⟨2,531,1,400,1,420⟩,⟨2,532,1,400,1,420⟩,⟨2,533,1,400,1,420⟩,⟨2,534,1,400,1,420⟩,⟨2,535,1,400,1,420⟩,⟨2,536,1,400,1,420⟩,⟨2,537,1,400,1,420⟩,⟨2,538,1,400,1,420⟩,⟨2,539,1,400,1,420⟩,⟨2,540,1,400,1,420⟩,⟨2,541,1,400,1,420⟩,⟨2,542,1,400,1,420⟩,⟨2,543,1,400,1,420⟩,⟨2,544,1,400,1,420⟩,⟨2,545,1,400,1,420⟩,⟨2,546,1,400,1,420⟩,⟨2,547,1,400,1,420⟩,⟨2,548,1,400,1,420⟩,⟨2,549,1,400,1,420⟩,⟨2,550,1,400,1,420⟩,⟨2,551,1,400,1,420⟩,⟨2,552,1,400,1,420⟩,⟨2,553,1,400,1,420⟩,⟨2,554,1,400,1,420⟩,⟨2,555,1,400,1,420⟩,⟨2,556,1,400,1,421⟩,⟨2,557,1,400,1,422⟩,⟨2,558,1,400,1,423⟩,⟨2,559,1,400,1,424⟩,⟨3,552,2,492,2,492⟩,⟨3,553,2,492,2,493⟩,⟨3,554,2,492,2,494⟩,⟨3,555,2,492,2,495⟩,⟨3,556,2,492,2,496⟩,⟨3,557,2,492,2,497⟩,⟨3,558,2,492,2,498⟩,⟨3,559,2,492,2,499⟩],[⟨0,300,1⟩,⟨0,301,1⟩,⟨0,302,1⟩,⟨0,303,1⟩,⟨0,304,1⟩,⟨0,305,1⟩,⟨0,306,1⟩,⟨0,307,1⟩,⟨0,308,1⟩,⟨0,309,1⟩,⟨0,310,1⟩,⟨0,311,1⟩,⟨0,312,1⟩,⟨0,313,1⟩,⟨0,314,1⟩,⟨0,315,1⟩,⟨0,316,1⟩,⟨0,317,1⟩,⟨0,318,1⟩,⟨0,319,1⟩,⟨0,320,1⟩,⟨0,321,1⟩,⟨0,322,1⟩,⟨0,323,1⟩,⟨0,324,1⟩,⟨0,325,1⟩,⟨0,326,1⟩,⟨0,327,1⟩,⟨0,328,1⟩,⟨0,329,1⟩,⟨0,330,1⟩,⟨1,400,1⟩,⟨1,401,2⟩,⟨1,402,3⟩,⟨1,403,4⟩,⟨1,404,5⟩,⟨1,405,6⟩,⟨1,406,7⟩,⟨1,407,8⟩,⟨1,408,9⟩,⟨1,409,10⟩,⟨1,410,11⟩,⟨1,411,12⟩,⟨1,412,13⟩,⟨1,413,14⟩,⟨1,414,15⟩,⟨1,415,16⟩,⟨1,416,17⟩,⟨1,417,18⟩,⟨1,418,19⟩,⟨1,419,20⟩,⟨1,420,21⟩,⟨1,421,21⟩,⟨1,422,21⟩,⟨1,423,21⟩,⟨1,424,21⟩,⟨1,425,21⟩,⟨1,426,21⟩,⟨1,427,21⟩,⟨1,428,21⟩,⟨1,429,21⟩,⟨1,430,21⟩,⟨1,431,20⟩,⟨1,432,19⟩,⟨1,433,18⟩,⟨1,434,17⟩,⟨1,435,16⟩,⟨1,436,15⟩,⟨1,437,14⟩,⟨1,438,13⟩,⟨1,439,12⟩,⟨1,440,11⟩,⟨1,441,10⟩,⟨1,442,9⟩,⟨1,443,8⟩,⟨1,444,7⟩,⟨1,445,6⟩,⟨1,446,5⟩,⟨1,447,4⟩,⟨1,448,3⟩,⟨1,449,2⟩,⟨1,450,1⟩,⟨2,492,1⟩,⟨2,493,2⟩,⟨2,494,3⟩,⟨2,495,4⟩,⟨2,496,5⟩,⟨2,497,6⟩,⟨2,498,7⟩,⟨2,499,8⟩,⟨2,501,1⟩,⟨2,502,2⟩,⟨2,503,3⟩,⟨2,504,4⟩,⟨2,505,5⟩,⟨2,506,6⟩,⟨2,507,7⟩,⟨2,508,8⟩,⟨2,509,9⟩,⟨2,510,10⟩,⟨2,511,10⟩,⟨2,512,10⟩,⟨2,513,10⟩,⟨2,514,10⟩,⟨2,515,10⟩,⟨2,516,10⟩,⟨2,517,10⟩,⟨2,518,10⟩,⟨2,519,10⟩,⟨2,520,10⟩,⟨2,521,10⟩,⟨2,522,10⟩,⟨2,523,10⟩,⟨2,524,10⟩,⟨2,525,10⟩,⟨2,526,10⟩,⟨2,527,10⟩,⟨2,528,10⟩,⟨2,529,10⟩,⟨2,530,10⟩,⟨2,531,10⟩,⟨2,532,9⟩,⟨2,533,8⟩,⟨2,534,7⟩,⟨2,535,6⟩,⟨2,536,5⟩,⟨2,537,4⟩,⟨2,538,3⟩,⟨2,539,2⟩,⟨2,540,1⟩])
def ex48:List Arv × List Cnt:=([⟨0,300,0,0,-1,0⟩,⟨1,400,0,300,0,300⟩,⟨1,401,0,300,0,300⟩,⟨1,402,0,300,0,300⟩,⟨1,403,0,300,0,300⟩,⟨1,404,0,300,0,300⟩,⟨1,405,0,300,0,300⟩,⟨1,406,0,300,0,300⟩,⟨1,407,0,300,0,300⟩,⟨1,408,0,300,0,300⟩,⟨1,409,0,300,0,300⟩,⟨1,410,0,300,0,300⟩,⟨1,411,0,300,0,300⟩,⟨1,412,0,300,0,300⟩,⟨1,413,0,300,0,300⟩,⟨1,414,0,300,0,300⟩,⟨1,415,0,300,0,300⟩,⟨1,416,0,300,0,300⟩,⟨1,417,0,300,0,300⟩,⟨1,418,0,300,0,300⟩,⟨1,419,0,300,0,300⟩,⟨1,420,0,300,0,300⟩,⟨2,492,1,400,1,420⟩,⟨2,493,1,400,1,420⟩,⟨2,494,1,400,1,420⟩,⟨2,495,1,400,1,420⟩,⟨2,496,1,400,1,420⟩,⟨2,497,1,400,1,420⟩,⟨2,498,1,400,1,420⟩,⟨2,499,1,400,1,420⟩,⟨2,501,1,400,1,420⟩,⟨2,502,1,400,1,420⟩,⟨2,503,1,400,1,420⟩,⟨2,504,1,400,1,420⟩,⟨2,505,1,400,1,420⟩,⟨2,506,1,400,1,420⟩,⟨2,507,1,400,1,420⟩,⟨2,508,1,400,1,420⟩,⟨2,509,1,400,1,420⟩,⟨2,510,1,400,1,420⟩,⟨2,511,1,400,1,420⟩,⟨2,512,1,400,1,420⟩,⟨2,513,1,400,1,420⟩,⟨2,514,1,400,1,420⟩,⟨2,515,1,400,1,420⟩,⟨2,516,1,400,1,420⟩,⟨2,517,1,400,1,420⟩,⟨2,518,1,400,1,420⟩,⟨2,519,1,400,1,420⟩,⟨2,520,1,400,1,420⟩,⟨2,521,1,400,1,420⟩,⟨2,522,1,400,1,420⟩,⟨2,523,1,400,1,420⟩,⟨2,524,1,400,1,420⟩,⟨2,525,1,400,1,420⟩,⟨2,526,1,400,1,420⟩,⟨2,527,1,400,1,420⟩,⟨2,528,1,400,1,420⟩,⟨2,529,1,400,1,420⟩,⟨2,530,1,400,1,420⟩,⟨2,531,1,400,1,420⟩,⟨2,532,1,400,1,420⟩,⟨2,533,1,400,1,420⟩,⟨2,534,1,400,1,420⟩,⟨2,535,1,400,1,420⟩,⟨2,536,1,400,1,420⟩,⟨2,537,1,400,1,420⟩,⟨2,538,1,400,1,420⟩,⟨2,539,1,400,1,420⟩,⟨2,540,1,400,1,420⟩,⟨2,541,1,400,1,420⟩,⟨2,542,1,400,1,420⟩,⟨2,543,1,400,1,420⟩,⟨2,544,1,400,1,420⟩,⟨2,545,1,400,1,420⟩,⟨2,546,1,400,1,420⟩,⟨2,547,1,400,1,420⟩,⟨2,548,1,400,1,420⟩,⟨2,549,1,400,1,420⟩,⟨2,550,1,400,1,420⟩,⟨2,551,1,400,1,420⟩,⟨2,552,1,400,1,420⟩,⟨2,553,1,400,1,420⟩,⟨2,554,1,400,1,420⟩,⟨2,555,1,400,1,420⟩,⟨2,556,1,400,1,421⟩,⟨2,557,1,400,1,422⟩,⟨2,558,1,400,1,423⟩,⟨2,559,1,400,1,424⟩,⟨3,552,2,492,2,492⟩,⟨3,553,2,492,2,493⟩,⟨3,554,2,492,2,494⟩,⟨3,555,2,492,2,495⟩,⟨3,556,2,492,2,496⟩,⟨3,557,2,492,2,497⟩,⟨3,558,2,492,2,498⟩,⟨3,559,2,492,2,499⟩],[⟨0,300,1⟩,⟨0,301,1⟩,⟨0,302,1⟩,⟨0,303,1⟩,⟨0,304,1⟩,⟨0,305,1⟩,⟨0,306,1⟩,⟨0,307,1⟩,⟨0,308,1⟩,⟨0,309,1⟩,⟨0,310,1⟩,⟨0,311,1⟩,⟨0,312,1⟩,⟨0,313,1⟩,⟨0,314,1⟩,⟨0,315,1⟩,⟨0,316,1⟩,⟨0,317,1⟩,⟨0,318,1⟩,⟨0,319,1⟩,⟨0,320,1⟩,⟨0,321,1⟩,⟨0,322,1⟩,⟨0,323,1⟩,⟨0,324,1⟩,⟨0,325,1⟩,⟨0,326,1⟩,⟨0,327,1⟩,⟨0,328,1⟩,⟨0,329,1⟩,⟨0,330,1⟩,⟨1,400,1⟩,⟨1,401,2⟩,⟨1,402,3⟩,⟨1,403,4⟩,⟨1,404,5⟩,⟨1,405,6⟩,⟨1,406,7⟩,⟨1,407,8⟩,⟨1,408,9⟩,⟨1,409,10⟩,⟨1,410,11⟩,⟨1,411,12⟩,⟨1,412,13⟩,⟨1,413,14⟩,⟨1,414,15⟩,⟨1,415,16⟩,⟨1,416,17⟩,⟨1,417,18⟩,⟨1,418,19⟩,⟨1,419,20⟩,⟨1,420,21⟩,⟨1,421,21⟩,⟨1,422,21⟩,⟨1,423,21⟩,⟨1,424,21⟩,⟨1,425,21⟩,⟨1,426,21⟩,⟨1,427,21⟩,⟨1,428,21⟩,⟨1,429,21⟩,⟨1,430,21⟩,⟨1,431,20⟩,⟨1,432,19⟩,⟨1,433,18⟩,⟨1,434,17⟩,⟨1,435,16⟩,⟨1,436,15⟩,⟨1,437,14⟩,⟨1,438,13⟩,⟨1,439,12⟩,⟨1,440,11⟩,⟨1,441,10⟩,⟨1,442,9⟩,⟨1,443,8⟩,⟨1,444,7⟩,⟨1,445,6⟩,⟨1,446,5⟩,⟨1,447,4⟩,⟨1,448,3⟩,⟨1,449,2⟩,⟨1,450,1⟩,⟨2,492,1⟩,⟨2,493,2⟩,⟨2,494,3⟩,⟨2,495,4⟩,⟨2,496,5⟩,⟨2,497,6⟩,⟨2,498,7⟩,⟨2,499,8⟩,⟨2,501,1⟩,⟨2,502,2⟩,⟨2,503,3⟩,⟨2,504,4⟩,⟨2,505,5⟩,⟨2,506,6⟩,⟨2,507,7⟩,⟨2,508,8⟩,⟨2,509,9⟩,⟨2,510,10⟩,⟨2,511,11⟩,⟨2,512,12⟩,⟨2,513,13⟩,⟨2,514,14⟩,⟨2,515,15⟩,⟨2,516,16⟩,⟨2,517,17⟩,⟨2,518,18⟩,⟨2,519,18⟩,⟨2,520,18⟩,⟨2,521,18⟩,⟨2,522,18⟩,⟨2,523,18⟩,⟨2,524,18⟩,⟨2,525,18⟩,⟨2,526,18⟩,⟨2,527,18⟩,⟨2,528,18⟩,⟨2,529,18⟩,⟨2,530,18⟩,⟨2,531,18⟩,⟨2,532,17⟩,⟨2,533,16⟩,⟨2,534,15⟩,⟨2,535,14⟩,⟨2,536,13⟩,⟨2,537,12⟩,⟨2,538,11⟩,⟨2,539,10⟩,⟨2,540,9⟩,⟨2,541,8⟩,⟨2,542,7⟩,⟨2,543,6⟩,⟨2,544,5⟩,⟨2,545,4⟩,⟨2,546,3⟩,⟨2,547,2⟩,⟨2,548,1⟩])
def ex56:List Arv × List Cnt:=([⟨0,300,0,0,-1,0⟩,⟨1,400,0,300,0,300⟩,⟨1,401,0,300,0,300⟩,⟨1,402,0,300,0,300⟩,⟨1,403,0,300,0,300⟩,⟨1,404,0,300,0,300⟩,⟨1,405,0,300,0,300⟩,⟨1,406,0,300,0,300⟩,⟨1,407,0,300,0,300⟩,⟨1,408,0,300,0,300⟩,⟨1,409,0,300,0,300⟩,⟨1,410,0,300,0,300⟩,⟨1,411,0,300,0,300⟩,⟨1,412,0,300,0,300⟩,⟨1,413,0,300,0,300⟩,⟨1,414,0,300,0,300⟩,⟨1,415,0,300,0,300⟩,⟨1,416,0,300,0,300⟩,⟨1,417,0,300,0,300⟩,⟨1,418,0,300,0,300⟩,⟨1,419,0,300,0,300⟩,⟨1,420,0,300,0,300⟩,⟨2,492,1,400,1,420⟩,⟨2,493,1,400,1,420⟩,⟨2,494,1,400,1,420⟩,⟨2,495,1,400,1,420⟩,⟨2,496,1,400,1,420⟩,⟨2,497,1,400,1,420⟩,⟨2,498,1,400,1,420⟩,⟨2,499,1,400,1,420⟩,⟨2,501,1,400,1,420⟩,⟨2,502,1,400,1,420⟩,⟨2,503,1,400,1,420⟩,⟨2,504,1,400,1,420⟩,⟨2,505,1,400,1,420⟩,⟨2,506,1,400,1,420⟩,⟨2,507,1,400,1,420⟩,⟨2,508,1,400,1,420⟩,⟨2,509,1,400,1,420⟩,⟨2,510,1,400,1,420⟩,⟨2,511,1,400,1,420⟩,⟨2,512,1,400,1,420⟩,⟨2,513,1,400,1,420⟩,⟨2,514,1,400,1,420⟩,⟨2,515,1,400,1,420⟩,⟨2,516,1,400,1,420⟩,⟨2,517,1,400,1,420⟩,⟨2,518,1,400,1,420⟩,⟨2,519,1,400,1,420⟩,⟨2,520,1,400,1,420⟩,⟨2,521,1,400,1,420⟩,⟨2,522,1,400,1,420⟩,⟨2,523,1,400,1,420⟩,⟨2,524,1,400,1,420⟩,⟨2,525,1,400,1,420⟩,⟨2,526,1,400,1,420⟩,⟨2,527,1,400,1,420⟩,⟨2,528,1,400,1,420⟩,⟨2,529,1,400,1,420⟩,⟨2,530,1,400,1,420⟩,⟨2,531,1,400,1,420⟩,⟨2,532,1,400,1,420⟩,⟨2,533,1,400,1,420⟩,⟨2,534,1,400,1,420⟩,⟨2,535,1,400,1,420⟩,⟨2,536,1,400,1,420⟩,⟨2,537,1,400,1,420⟩,⟨2,538,1,400,1,420⟩,⟨2,539,1,400,1,420⟩,⟨2,540,1,400,1,420⟩,⟨2,541,1,400,1,420⟩,⟨2,542,1,400,1,420⟩,⟨2,543,1,400,1,420⟩,⟨2,544,1,400,1,420⟩,⟨2,545,1,400,1,420⟩,⟨2,546,1,400,1,420⟩,⟨2,547,1,400,1,420⟩,⟨2,548,1,400,1,420⟩,⟨2,549,1,400,1,420⟩,⟨2,550,1,400,1,420⟩,⟨2,551,1,400,1,420⟩,⟨2,552,1,400,1,420⟩,⟨2,553,1,400,1,420⟩,⟨2,554,1,400,1,420⟩,⟨2,555,1,400,1,420⟩,⟨2,556,1,400,1,421⟩,⟨2,557,1,400,1,422⟩,⟨2,558,1,400,1,423⟩,⟨2,559,1,400,1,424⟩,⟨3,552,2,492,2,492⟩,⟨3,553,2,492,2,493⟩,⟨3,554,2,492,2,494⟩,⟨3,555,2,492,2,495⟩,⟨3,556,2,492,2,496⟩,⟨3,557,2,492,2,497⟩,⟨3,558,2,492,2,498⟩,⟨3,559,2,492,2,499⟩],[⟨0,300,1⟩,⟨0,301,1⟩,⟨0,302,1⟩,⟨0,303,1⟩,⟨0,304,1⟩,⟨0,305,1⟩,⟨0,306,1⟩,⟨0,307,1⟩,⟨0,308,1⟩,⟨0,309,1⟩,⟨0,310,1⟩,⟨0,311,1⟩,⟨0,312,1⟩,⟨0,313,1⟩,⟨0,314,1⟩,⟨0,315,1⟩,⟨0,316,1⟩,⟨0,317,1⟩,⟨0,318,1⟩,⟨0,319,1⟩,⟨0,320,1⟩,⟨0,321,1⟩,⟨0,322,1⟩,⟨0,323,1⟩,⟨0,324,1⟩,⟨0,325,1⟩,⟨0,326,1⟩,⟨0,327,1⟩,⟨0,328,1⟩,⟨0,329,1⟩,⟨0,330,1⟩,⟨1,400,1⟩,⟨1,401,2⟩,⟨1,402,3⟩,⟨1,403,4⟩,⟨1,404,5⟩,⟨1,405,6⟩,⟨1,406,7⟩,⟨1,407,8⟩,⟨1,408,9⟩,⟨1,409,10⟩,⟨1,410,11⟩,⟨1,411,12⟩,⟨1,412,13⟩,⟨1,413,14⟩,⟨1,414,15⟩,⟨1,415,16⟩,⟨1,416,17⟩,⟨1,417,18⟩,⟨1,418,19⟩,⟨1,419,20⟩,⟨1,420,21⟩,⟨1,421,21⟩,⟨1,422,21⟩,⟨1,423,21⟩,⟨1,424,21⟩,⟨1,425,21⟩,⟨1,426,21⟩,⟨1,427,21⟩,⟨1,428,21⟩,⟨1,429,21⟩,⟨1,430,21⟩,⟨1,431,20⟩,⟨1,432,19⟩,⟨1,433,18⟩,⟨1,434,17⟩,⟨1,435,16⟩,⟨1,436,15⟩,⟨1,437,14⟩,⟨1,438,13⟩,⟨1,439,12⟩,⟨1,440,11⟩,⟨1,441,10⟩,⟨1,442,9⟩,⟨1,443,8⟩,⟨1,444,7⟩,⟨1,445,6⟩,⟨1,446,5⟩,⟨1,447,4⟩,⟨1,448,3⟩,⟨1,449,2⟩,⟨1,450,1⟩,⟨2,492,1⟩,⟨2,493,2⟩,⟨2,494,3⟩,⟨2,495,4⟩,⟨2,496,5⟩,⟨2,497,6⟩,⟨2,498,7⟩,⟨2,499,8⟩,⟨2,501,1⟩,⟨2,502,2⟩,⟨2,503,3⟩,⟨2,504,4⟩,⟨2,505,5⟩,⟨2,506,6⟩,⟨2,507,7⟩,⟨2,508,8⟩,⟨2,509,9⟩,⟨2,510,10⟩,⟨2,511,11⟩,⟨2,512,12⟩,⟨2,513,13⟩,⟨2,514,14⟩,⟨2,515,15⟩,⟨2,516,16⟩,⟨2,517,17⟩,⟨2,518,18⟩,⟨2,519,19⟩,⟨2,520,20⟩,⟨2,521,21⟩,⟨2,522,22⟩,⟨2,523,23⟩,⟨2,524,24⟩,⟨2,525,25⟩,⟨2,526,26⟩,⟨2,527,26⟩,⟨2,528,26⟩,⟨2,529,26⟩,⟨2,530,26⟩,⟨2,531,26⟩,⟨2,532,25⟩,⟨2,533,24⟩,⟨2,534,23⟩,⟨2,535,22⟩,⟨2,536,21⟩,⟨2,537,20⟩,⟨2,538,19⟩,⟨2,539,18⟩,⟨2,540,17⟩,⟨2,541,16⟩,⟨2,542,15⟩,⟨2,543,14⟩,⟨2,544,13⟩,⟨2,545,12⟩,⟨2,546,11⟩,⟨2,547,10⟩,⟨2,548,9⟩,⟨2,549,8⟩,⟨2,550,7⟩,⟨2,551,6⟩,⟨2,552,5⟩,⟨2,553,4⟩,⟨2,554,3⟩,⟨2,555,2⟩,⟨2,556,1⟩])
def ex64:List Arv × List Cnt:=([⟨0,300,0,0,-1,0⟩,⟨1,400,0,300,0,300⟩,⟨1,401,0,300,0,300⟩,⟨1,402,0,300,0,300⟩,⟨1,403,0,300,0,300⟩,⟨1,404,0,300,0,300⟩,⟨1,405,0,300,0,300⟩,⟨1,406,0,300,0,300⟩,⟨1,407,0,300,0,300⟩,⟨1,408,0,300,0,300⟩,⟨1,409,0,300,0,300⟩,⟨1,410,0,300,0,300⟩,⟨1,411,0,300,0,300⟩,⟨1,412,0,300,0,300⟩,⟨1,413,0,300,0,300⟩,⟨1,414,0,300,0,300⟩,⟨1,415,0,300,0,300⟩,⟨1,416,0,300,0,300⟩,⟨1,417,0,300,0,300⟩,⟨1,418,0,300,0,300⟩,⟨1,419,0,300,0,300⟩,⟨1,420,0,300,0,300⟩,⟨2,492,1,400,1,420⟩,⟨2,493,1,400,1,420⟩,⟨2,494,1,400,1,420⟩,⟨2,495,1,400,1,420⟩,⟨2,496,1,400,1,420⟩,⟨2,497,1,400,1,420⟩,⟨2,498,1,400,1,420⟩,⟨2,499,1,400,1,420⟩,⟨2,501,1,400,1,420⟩,⟨2,502,1,400,1,420⟩,⟨2,503,1,400,1,420⟩,⟨2,504,1,400,1,420⟩,⟨2,505,1,400,1,420⟩,⟨2,506,1,400,1,420⟩,⟨2,507,1,400,1,420⟩,⟨2,508,1,400,1,420⟩,⟨2,509,1,400,1,420⟩,⟨2,510,1,400,1,420⟩,⟨2,511,1,400,1,420⟩,⟨2,512,1,400,1,420⟩,⟨2,513,1,400,1,420⟩,⟨2,514,1,400,1,420⟩,⟨2,515,1,400,1,420⟩,⟨2,516,1,400,1,420⟩,⟨2,517,1,400,1,420⟩,⟨2,518,1,400,1,420⟩,⟨2,519,1,400,1,420⟩,⟨2,520,1,400,1,420⟩,⟨2,521,1,400,1,420⟩,⟨2,522,1,400,1,420⟩,⟨2,523,1,400,1,420⟩,⟨2,524,1,400,1,420⟩,⟨2,525,1,400,1,420⟩,⟨2,526,1,400,1,420⟩,⟨2,527,1,400,1,420⟩,⟨2,528,1,400,1,420⟩,⟨2,529,1,400,1,420⟩,⟨2,530,1,400,1,420⟩,⟨2,531,1,400,1,420⟩,⟨2,532,1,400,1,420⟩,⟨2,533,1,400,1,420⟩,⟨2,534,1,400,1,420⟩,⟨2,535,1,400,1,420⟩,⟨2,536,1,400,1,420⟩,⟨2,537,1,400,1,420⟩,⟨2,538,1,400,1,420⟩,⟨2,539,1,400,1,420⟩,⟨2,540,1,400,1,420⟩,⟨2,541,1,400,1,420⟩,⟨2,542,1,400,1,420⟩,⟨2,543,1,400,1,420⟩,⟨2,544,1,400,1,420⟩,⟨2,545,1,400,1,420⟩,⟨2,546,1,400,1,420⟩,⟨2,547,1,400,1,420⟩,⟨2,548,1,400,1,420⟩,⟨2,549,1,400,1,420⟩,⟨2,550,1,400,1,420⟩,⟨2,551,1,400,1,420⟩,⟨2,552,1,400,1,420⟩,⟨2,553,1,400,1,420⟩,⟨2,554,1,400,1,420⟩,⟨2,555,1,400,1,420⟩,⟨2,556,1,400,1,421⟩,⟨2,557,1,400,1,422⟩,⟨2,558,1,400,1,423⟩,⟨2,559,1,400,1,424⟩,⟨3,552,2,492,2,492⟩,⟨3,553,2,492,2,493⟩,⟨3,554,2,492,2,494⟩,⟨3,555,2,492,2,495⟩,⟨3,556,2,492,2,496⟩,⟨3,557,2,492,2,497⟩,⟨3,558,2,492,2,498⟩,⟨3,559,2,492,2,499⟩],[⟨0,300,1⟩,⟨0,301,1⟩,⟨0,302,1⟩,⟨0,303,1⟩,⟨0,304,1⟩,⟨0,305,1⟩,⟨0,306,1⟩,⟨0,307,1⟩,⟨0,308,1⟩,⟨0,309,1⟩,⟨0,310,1⟩,⟨0,311,1⟩,⟨0,312,1⟩,⟨0,313,1⟩,⟨0,314,1⟩,⟨0,315,1⟩,⟨0,316,1⟩,⟨0,317,1⟩,⟨0,318,1⟩,⟨0,319,1⟩,⟨0,320,1⟩,⟨0,321,1⟩,⟨0,322,1⟩,⟨0,323,1⟩,⟨0,324,1⟩,⟨0,325,1⟩,⟨0,326,1⟩,⟨0,327,1⟩,⟨0,328,1⟩,⟨0,329,1⟩,⟨0,330,1⟩,⟨1,400,1⟩,⟨1,401,2⟩,⟨1,402,3⟩,⟨1,403,4⟩,⟨1,404,5⟩,⟨1,405,6⟩,⟨1,406,7⟩,⟨1,407,8⟩,⟨1,408,9⟩,⟨1,409,10⟩,⟨1,410,11⟩,⟨1,411,12⟩,⟨1,412,13⟩,⟨1,413,14⟩,⟨1,414,15⟩,⟨1,415,16⟩,⟨1,416,17⟩,⟨1,417,18⟩,⟨1,418,19⟩,⟨1,419,20⟩,⟨1,420,21⟩,⟨1,421,21⟩,⟨1,422,21⟩,⟨1,423,21⟩,⟨1,424,21⟩,⟨1,425,21⟩,⟨1,426,21⟩,⟨1,427,21⟩,⟨1,428,21⟩,⟨1,429,21⟩,⟨1,430,21⟩,⟨1,431,20⟩,⟨1,432,19⟩,⟨1,433,18⟩,⟨1,434,17⟩,⟨1,435,16⟩,⟨1,436,15⟩,⟨1,437,14⟩,⟨1,438,13⟩,⟨1,439,12⟩,⟨1,440,11⟩,⟨1,441,10⟩,⟨1,442,9⟩,⟨1,443,8⟩,⟨1,444,7⟩,⟨1,445,6⟩,⟨1,446,5⟩,⟨1,447,4⟩,⟨1,448,3⟩,⟨1,449,2⟩,⟨1,450,1⟩,⟨2,492,1⟩,⟨2,493,2⟩,⟨2,494,3⟩,⟨2,495,4⟩,⟨2,496,5⟩,⟨2,497,6⟩,⟨2,498,7⟩,⟨2,499,8⟩,⟨2,501,1⟩,⟨2,502,2⟩,⟨2,503,3⟩,⟨2,504,4⟩,⟨2,505,5⟩,⟨2,506,6⟩,⟨2,507,7⟩,⟨2,508,8⟩,⟨2,509,9⟩,⟨2,510,10⟩,⟨2,511,11⟩,⟨2,512,12⟩,⟨2,513,13⟩,⟨2,514,14⟩,⟨2,515,15⟩,⟨2,516,16⟩,⟨2,517,17⟩,⟨2,518,18⟩,⟨2,519,19⟩,⟨2,520,20⟩,⟨2,521,21⟩,⟨2,522,22⟩,⟨2,523,23⟩,⟨2,524,24⟩,⟨2,525,25⟩,⟨2,526,26⟩,⟨2,527,27⟩,⟨2,528,28⟩,⟨2,529,29⟩,⟨2,530,30⟩,⟨2,531,31⟩,⟨2,532,31⟩,⟨2,533,31⟩,⟨2,534,31⟩,⟨2,535,30⟩,⟨2,536,29⟩,⟨2,537,28⟩,⟨2,538,27⟩,⟨2,539,26⟩,⟨2,540,25⟩,⟨2,541,24⟩,⟨2,542,23⟩,⟨2,543,22⟩,⟨2,544,21⟩,⟨2,545,20⟩,⟨2,546,19⟩,⟨2,547,18⟩,⟨2,548,17⟩,⟨2,549,16⟩,⟨2,550,15⟩,⟨2,551,14⟩,⟨2,552,13⟩,⟨2,553,12⟩,⟨2,554,11⟩,⟨2,555,10⟩,⟨2,556,9⟩,⟨2,557,8⟩,⟨2,558,7⟩,⟨2,559,6⟩])
def ex72:List Arv × List Cnt:=([⟨0,300,0,0,-1,0⟩,⟨1,400,0,300,0,300⟩,⟨1,401,0,300,0,300⟩,⟨1,402,0,300,0,300⟩,⟨1,403,0,300,0,300⟩,⟨1,404,0,300,0,300⟩,⟨1,405,0,300,0,300⟩,⟨1,406,0,300,0,300⟩,⟨1,407,0,300,0,300⟩,⟨1,408,0,300,0,300⟩,⟨1,409,0,300,0,300⟩,⟨1,410,0,300,0,300⟩,⟨1,411,0,300,0,300⟩,⟨1,412,0,300,0,300⟩,⟨1,413,0,300,0,300⟩,⟨1,414,0,300,0,300⟩,⟨1,415,0,300,0,300⟩,⟨1,416,0,300,0,300⟩,⟨1,417,0,300,0,300⟩,⟨1,418,0,300,0,300⟩,⟨1,419,0,300,0,300⟩,⟨1,420,0,300,0,300⟩,⟨2,492,1,400,1,420⟩,⟨2,493,1,400,1,420⟩,⟨2,494,1,400,1,420⟩,⟨2,495,1,400,1,420⟩,⟨2,496,1,400,1,420⟩,⟨2,497,1,400,1,420⟩,⟨2,498,1,400,1,420⟩,⟨2,499,1,400,1,420⟩,⟨2,501,1,400,1,420⟩,⟨2,502,1,400,1,420⟩,⟨2,503,1,400,1,420⟩,⟨2,504,1,400,1,420⟩,⟨2,505,1,400,1,420⟩,⟨2,506,1,400,1,420⟩,⟨2,507,1,400,1,420⟩,⟨2,508,1,400,1,420⟩,⟨2,509,1,400,1,420⟩,⟨2,510,1,400,1,420⟩,⟨2,511,1,400,1,420⟩,⟨2,512,1,400,1,420⟩,⟨2,513,1,400,1,420⟩,⟨2,514,1,400,1,420⟩,⟨2,515,1,400,1,420⟩,⟨2,516,1,400,1,420⟩,⟨2,517,1,400,1,420⟩,⟨2,518,1,400,1,420⟩,⟨2,519,1,400,1,420⟩,⟨2,520,1,400,1,420⟩,⟨2,521,1,400,1,420⟩,⟨2,522,1,400,1,420⟩,⟨2,523,1,400,1,420⟩,⟨2,524,1,400,1,420⟩,⟨2,525,1,400,1,420⟩,⟨2,526,1,400,1,420⟩,⟨2,527,1,400,1,420⟩,⟨2,528,1,400,1,420⟩,⟨2,529,1,400,1,420⟩,⟨2,530,1,400,1,420⟩,⟨2,531,1,400,1,420⟩,⟨2,532,1,400,1,420⟩,⟨2,533,1,400,1,420⟩,⟨2,534,1,400,1,420⟩,⟨2,535,1,400,1,420⟩,⟨2,536,1,400,1,420⟩,⟨2,537,1,400,1,420⟩,⟨2,538,1,400,1,420⟩,⟨2,539,1,400,1,420⟩,⟨2,540,1,400,1,420⟩,⟨2,541,1,400,1,420⟩,⟨2,542,1,400,1,420⟩,⟨2,543,1,400,1,420⟩,⟨2,544,1,400,1,420⟩,⟨2,545,1,400,1,420⟩,⟨2,546,1,400,1,420⟩,⟨2,547,1,400,1,420⟩,⟨2,548,1,400,1,420⟩,⟨2,549,1,400,1,420⟩,⟨2,550,1,400,1,420⟩,⟨2,551,1,400,1,420⟩,⟨2,552,1,400,1,420⟩,⟨2,553,1,400,1,420⟩,⟨2,554,1,400,1,420⟩,⟨2,555,1,400,1,420⟩,⟨2,556,1,400,1,421⟩,⟨2,557,1,400,1,422⟩,⟨2,558,1,400,1,423⟩,⟨2,559,1,400,1,424⟩,⟨3,552,2,492,2,492⟩,⟨3,553,2,492,2,493⟩,⟨3,554,2,492,2,494⟩,⟨3,555,2,492,2,495⟩,⟨3,556,2,492,2,496⟩,⟨3,557,2,492,2,497⟩,⟨3,558,2,492,2,498⟩,⟨3,559,2,492,2,499⟩],[⟨0,300,1⟩,⟨0,301,1⟩,⟨0,302,1⟩,⟨0,303,1⟩,⟨0,304,1⟩,⟨0,305,1⟩,⟨0,306,1⟩,⟨0,307,1⟩,⟨0,308,1⟩,⟨0,309,1⟩,⟨0,310,1⟩,⟨0,311,1⟩,⟨0,312,1⟩,⟨0,313,1⟩,⟨0,314,1⟩,⟨0,315,1⟩,⟨0,316,1⟩,⟨0,317,1⟩,⟨0,318,1⟩,⟨0,319,1⟩,⟨0,320,1⟩,⟨0,321,1⟩,⟨0,322,1⟩,⟨0,323,1⟩,⟨0,324,1⟩,⟨0,325,1⟩,⟨0,326,1⟩,⟨0,327,1⟩,⟨0,328,1⟩,⟨0,329,1⟩,⟨0,330,1⟩,⟨1,400,1⟩,⟨1,401,2⟩,⟨1,402,3⟩,⟨1,403,4⟩,⟨1,404,5⟩,⟨1,405,6⟩,⟨1,406,7⟩,⟨1,407,8⟩,⟨1,408,9⟩,⟨1,409,10⟩,⟨1,410,11⟩,⟨1,411,12⟩,⟨1,412,13⟩,⟨1,413,14⟩,⟨1,414,15⟩,⟨1,415,16⟩,⟨1,416,17⟩,⟨1,417,18⟩,⟨1,418,19⟩,⟨1,419,20⟩,⟨1,420,21⟩,⟨1,421,21⟩,⟨1,422,21⟩,⟨1,423,21⟩,⟨1,424,21⟩,⟨1,425,21⟩,⟨1,426,21⟩,⟨1,427,21⟩,⟨1,428,21⟩,⟨1,429,21⟩,⟨1,430,21⟩,⟨1,431,20⟩,⟨1,432,19⟩,⟨1,433,18⟩,⟨1,434,17⟩,⟨1,435,16⟩,⟨1,436,15⟩,⟨1,437,14⟩,⟨1,438,13⟩,⟨1,439,12⟩,⟨1,440,11⟩,⟨1,441,10⟩,⟨1,442,9⟩,⟨1,443,8⟩,⟨1,444,7⟩,⟨1,445,6⟩,⟨1,446,5⟩,⟨1,447,4⟩,⟨1,448,3⟩,⟨1,449,2⟩,⟨1,450,1⟩,⟨2,492,1⟩,⟨2,493,2⟩,⟨2,494,3⟩,⟨2,495,4⟩,⟨2,496,5⟩,⟨2,497,6⟩,⟨2,498,7⟩,⟨2,499,8⟩,⟨2,501,1⟩,⟨2,502,2⟩,⟨2,503,3⟩,⟨2,504,4⟩,⟨2,505,5⟩,⟨2,506,6⟩,⟨2,507,7⟩,⟨2,508,8⟩,⟨2,509,9⟩,⟨2,510,10⟩,⟨2,511,11⟩,⟨2,512,12⟩,⟨2,513,13⟩,⟨2,514,14⟩,⟨2,515,15⟩,⟨2,516,16⟩,⟨2,517,17⟩,⟨2,518,18⟩,⟨2,519,19⟩,⟨2,520,20⟩,⟨2,521,21⟩,⟨2,522,22⟩,⟨2,523,23⟩,⟨2,524,24⟩,⟨2,525,25⟩,⟨2,526,26⟩,⟨2,527,27⟩,⟨2,528,28⟩,⟨2,529,29⟩,⟨2,530,30⟩,⟨2,531,31⟩,⟨2,532,31⟩,⟨2,533,31⟩,⟨2,534,31⟩,⟨2,535,31⟩,⟨2,536,31⟩,⟨2,537,31⟩,⟨2,538,31⟩,⟨2,539,31⟩,⟨2,540,31⟩,⟨2,541,31⟩,⟨2,542,31⟩,⟨2,543,30⟩,⟨2,544,29⟩,⟨2,545,28⟩,⟨2,546,27⟩,⟨2,547,26⟩,⟨2,548,25⟩,⟨2,549,24⟩,⟨2,550,23⟩,⟨2,551,22⟩,⟨2,552,21⟩,⟨2,553,20⟩,⟨2,554,19⟩,⟨2,555,18⟩,⟨2,556,17⟩,⟨2,557,16⟩,⟨2,558,15⟩,⟨2,559,14⟩])
def ex80:List Arv × List Cnt:=([⟨0,300,0,0,-1,0⟩,⟨1,400,0,300,0,300⟩,⟨1,401,0,300,0,300⟩,⟨1,402,0,300,0,300⟩,⟨1,403,0,300,0,300⟩,⟨1,404,0,300,0,300⟩,⟨1,405,0,300,0,300⟩,⟨1,406,0,300,0,300⟩,⟨1,407,0,300,0,300⟩,⟨1,408,0,300,0,300⟩,⟨1,409,0,300,0,300⟩,⟨1,410,0,300,0,300⟩,⟨1,411,0,300,0,300⟩,⟨1,412,0,300,0,300⟩,⟨1,413,0,300,0,300⟩,⟨1,414,0,300,0,300⟩,⟨1,415,0,300,0,300⟩,⟨1,416,0,300,0,300⟩,⟨1,417,0,300,0,300⟩,⟨1,418,0,300,0,300⟩,⟨1,419,0,300,0,300⟩,⟨1,420,0,300,0,300⟩,⟨2,492,1,400,1,420⟩,⟨2,493,1,400,1,420⟩,⟨2,494,1,400,1,420⟩,⟨2,495,1,400,1,420⟩,⟨2,496,1,400,1,420⟩,⟨2,497,1,400,1,420⟩,⟨2,498,1,400,1,420⟩,⟨2,499,1,400,1,420⟩,⟨2,501,1,400,1,420⟩,⟨2,502,1,400,1,420⟩,⟨2,503,1,400,1,420⟩,⟨2,504,1,400,1,420⟩,⟨2,505,1,400,1,420⟩,⟨2,506,1,400,1,420⟩,⟨2,507,1,400,1,420⟩,⟨2,508,1,400,1,420⟩,⟨2,509,1,400,1,420⟩,⟨2,510,1,400,1,420⟩,⟨2,511,1,400,1,420⟩,⟨2,512,1,400,1,420⟩,⟨2,513,1,400,1,420⟩,⟨2,514,1,400,1,420⟩,⟨2,515,1,400,1,420⟩,⟨2,516,1,400,1,420⟩,⟨2,517,1,400,1,420⟩,⟨2,518,1,400,1,420⟩,⟨2,519,1,400,1,420⟩,⟨2,520,1,400,1,420⟩,⟨2,521,1,400,1,420⟩,⟨2,522,1,400,1,420⟩,⟨2,523,1,400,1,420⟩,⟨2,524,1,400,1,420⟩,⟨2,525,1,400,1,420⟩,⟨2,526,1,400,1,420⟩,⟨2,527,1,400,1,420⟩,⟨2,528,1,400,1,420⟩,⟨2,529,1,400,1,420⟩,⟨2,530,1,400,1,420⟩,⟨2,531,1,400,1,420⟩,⟨2,532,1,400,1,420⟩,⟨2,533,1,400,1,420⟩,⟨2,534,1,400,1,420⟩,⟨2,535,1,400,1,420⟩,⟨2,536,1,400,1,420⟩,⟨2,537,1,400,1,420⟩,⟨2,538,1,400,1,420⟩,⟨2,539,1,400,1,420⟩,⟨2,540,1,400,1,420⟩,⟨2,541,1,400,1,420⟩,⟨2,542,1,400,1,420⟩,⟨2,543,1,400,1,420⟩,⟨2,544,1,400,1,420⟩,⟨2,545,1,400,1,420⟩,⟨2,546,1,400,1,420⟩,⟨2,547,1,400,1,420⟩,⟨2,548,1,400,1,420⟩,⟨2,549,1,400,1,420⟩,⟨2,550,1,400,1,420⟩,⟨2,551,1,400,1,420⟩,⟨2,552,1,400,1,420⟩,⟨2,553,1,400,1,420⟩,⟨2,554,1,400,1,420⟩,⟨2,555,1,400,1,420⟩,⟨2,556,1,400,1,421⟩,⟨2,557,1,400,1,422⟩,⟨2,558,1,400,1,423⟩,⟨2,559,1,400,1,424⟩,⟨3,552,2,492,2,492⟩,⟨3,553,2,492,2,493⟩,⟨3,554,2,492,2,494⟩,⟨3,555,2,492,2,495⟩,⟨3,556,2,492,2,496⟩,⟨3,557,2,492,2,497⟩,⟨3,558,2,492,2,498⟩,⟨3,559,2,492,2,499⟩],[⟨0,300,1⟩,⟨0,301,1⟩,⟨0,302,1⟩,⟨0,303,1⟩,⟨0,304,1⟩,⟨0,305,1⟩,⟨0,306,1⟩,⟨0,307,1⟩,⟨0,308,1⟩,⟨0,309,1⟩,⟨0,310,1⟩,⟨0,311,1⟩,⟨0,312,1⟩,⟨0,313,1⟩,⟨0,314,1⟩,⟨0,315,1⟩,⟨0,316,1⟩,⟨0,317,1⟩,⟨0,318,1⟩,⟨0,319,1⟩,⟨0,320,1⟩,⟨0,321,1⟩,⟨0,322,1⟩,⟨0,323,1⟩,⟨0,324,1⟩,⟨0,325,1⟩,⟨0,326,1⟩,⟨0,327,1⟩,⟨0,328,1⟩,⟨0,329,1⟩,⟨0,330,1⟩,⟨1,400,1⟩,⟨1,401,2⟩,⟨1,402,3⟩,⟨1,403,4⟩,⟨1,404,5⟩,⟨1,405,6⟩,⟨1,406,7⟩,⟨1,407,8⟩,⟨1,408,9⟩,⟨1,409,10⟩,⟨1,410,11⟩,⟨1,411,12⟩,⟨1,412,13⟩,⟨1,413,14⟩,⟨1,414,15⟩,⟨1,415,16⟩,⟨1,416,17⟩,⟨1,417,18⟩,⟨1,418,19⟩,⟨1,419,20⟩,⟨1,420,21⟩,⟨1,421,21⟩,⟨1,422,21⟩,⟨1,423,21⟩,⟨1,424,21⟩,⟨1,425,21⟩,⟨1,426,21⟩,⟨1,427,21⟩,⟨1,428,21⟩,⟨1,429,21⟩,⟨1,430,21⟩,⟨1,431,20⟩,⟨1,432,19⟩,⟨1,433,18⟩,⟨1,434,17⟩,⟨1,435,16⟩,⟨1,436,15⟩,⟨1,437,14⟩,⟨1,438,13⟩,⟨1,439,12⟩,⟨1,440,11⟩,⟨1,441,10⟩,⟨1,442,9⟩,⟨1,443,8⟩,⟨1,444,7⟩,⟨1,445,6⟩,⟨1,446,5⟩,⟨1,447,4⟩,⟨1,448,3⟩,⟨1,449,2⟩,⟨1,450,1⟩,⟨2,492,1⟩,⟨2,493,2⟩,⟨2,494,3⟩,⟨2,495,4⟩,⟨2,496,5⟩,⟨2,497,6⟩,⟨2,498,7⟩,⟨2,499,8⟩,⟨2,501,1⟩,⟨2,502,2⟩,⟨2,503,3⟩,⟨2,504,4⟩,⟨2,505,5⟩,⟨2,506,6⟩,⟨2,507,7⟩,⟨2,508,8⟩,⟨2,509,9⟩,⟨2,510,10⟩,⟨2,511,11⟩,⟨2,512,12⟩,⟨2,513,13⟩,⟨2,514,14⟩,⟨2,515,15⟩,⟨2,516,16⟩,⟨2,517,17⟩,⟨2,518,18⟩,⟨2,519,19⟩,⟨2,520,20⟩,⟨2,521,21⟩,⟨2,522,22⟩,⟨2,523,23⟩,⟨2,524,24⟩,⟨2,525,25⟩,⟨2,526,26⟩,⟨2,527,27⟩,⟨2,528,28⟩,⟨2,529,29⟩,⟨2,530,30⟩,⟨2,531,31⟩,⟨2,532,31⟩,⟨2,533,31⟩,⟨2,534,31⟩,⟨2,535,31⟩,⟨2,536,31⟩,⟨2,537,31⟩,⟨2,538,31⟩,⟨2,539,31⟩,⟨2,540,31⟩,⟨2,541,31⟩,⟨2,542,31⟩,⟨2,543,31⟩,⟨2,544,31⟩,⟨2,545,31⟩,⟨2,546,31⟩,⟨2,547,31⟩,⟨2,548,31⟩,⟨2,549,31⟩,⟨2,550,31⟩,⟨2,551,30⟩,⟨2,552,29⟩,⟨2,553,28⟩,⟨2,554,27⟩,⟨2,555,26⟩,⟨2,556,25⟩,⟨2,557,24⟩,⟨2,558,23⟩,⟨2,559,22⟩])
def ex88:List Arv × List Cnt:=([⟨0,300,0,0,-1,0⟩,⟨1,400,0,300,0,300⟩,⟨1,401,0,300,0,300⟩,⟨1,402,0,300,0,300⟩,⟨1,403,0,300,0,300⟩,⟨1,404,0,300,0,300⟩,⟨1,405,0,300,0,300⟩,⟨1,406,0,300,0,300⟩,⟨1,407,0,300,0,300⟩,⟨1,408,0,300,0,300⟩,⟨1,409,0,300,0,300⟩,⟨1,410,0,300,0,300⟩,⟨1,411,0,300,0,300⟩,⟨1,412,0,300,0,300⟩,⟨1,413,0,300,0,300⟩,⟨1,414,0,300,0,300⟩,⟨1,415,0,300,0,300⟩,⟨1,416,0,300,0,300⟩,⟨1,417,0,300,0,300⟩,⟨1,418,0,300,0,300⟩,⟨1,419,0,300,0,300⟩,⟨1,420,0,300,0,300⟩,⟨2,492,1,400,1,420⟩,⟨2,493,1,400,1,420⟩,⟨2,494,1,400,1,420⟩,⟨2,495,1,400,1,420⟩,⟨2,496,1,400,1,420⟩,⟨2,497,1,400,1,420⟩,⟨2,498,1,400,1,420⟩,⟨2,499,1,400,1,420⟩,⟨2,501,1,400,1,420⟩,⟨2,502,1,400,1,420⟩,⟨2,503,1,400,1,420⟩,⟨2,504,1,400,1,420⟩,⟨2,505,1,400,1,420⟩,⟨2,506,1,400,1,420⟩,⟨2,507,1,400,1,420⟩,⟨2,508,1,400,1,420⟩,⟨2,509,1,400,1,420⟩,⟨2,510,1,400,1,420⟩,⟨2,511,1,400,1,420⟩,⟨2,512,1,400,1,420⟩,⟨2,513,1,400,1,420⟩,⟨2,514,1,400,1,420⟩,⟨2,515,1,400,1,420⟩,⟨2,516,1,400,1,420⟩,⟨2,517,1,400,1,420⟩,⟨2,518,1,400,1,420⟩,⟨2,519,1,400,1,420⟩,⟨2,520,1,400,1,420⟩,⟨2,521,1,400,1,420⟩,⟨2,522,1,400,1,420⟩,⟨2,523,1,400,1,420⟩,⟨2,524,1,400,1,420⟩,⟨2,525,1,400,1,420⟩,⟨2,526,1,400,1,420⟩,⟨2,527,1,400,1,420⟩,⟨2,528,1,400,1,420⟩,⟨2,529,1,400,1,420⟩,⟨2,530,1,400,1,420⟩,⟨2,531,1,400,1,420⟩,⟨2,532,1,400,1,420⟩,⟨2,533,1,400,1,420⟩,⟨2,534,1,400,1,420⟩,⟨2,535,1,400,1,420⟩,⟨2,536,1,400,1,420⟩,⟨2,537,1,400,1,420⟩,⟨2,538,1,400,1,420⟩,⟨2,539,1,400,1,420⟩,⟨2,540,1,400,1,420⟩,⟨2,541,1,400,1,420⟩,⟨2,542,1,400,1,420⟩,⟨2,543,1,400,1,420⟩,⟨2,544,1,400,1,420⟩,⟨2,545,1,400,1,420⟩,⟨2,546,1,400,1,420⟩,⟨2,547,1,400,1,420⟩,⟨2,548,1,400,1,420⟩,⟨2,549,1,400,1,420⟩,⟨2,550,1,400,1,420⟩,⟨2,551,1,400,1,420⟩,⟨2,552,1,400,1,420⟩,⟨2,553,1,400,1,420⟩,⟨2,554,1,400,1,420⟩,⟨2,555,1,400,1,420⟩,⟨2,556,1,400,1,421⟩,⟨2,557,1,400,1,422⟩,⟨2,558,1,400,1,423⟩,⟨2,559,1,400,1,424⟩,⟨3,552,2,492,2,492⟩,⟨3,553,2,492,2,493⟩,⟨3,554,2,492,2,494⟩,⟨3,555,2,492,2,495⟩,⟨3,556,2,492,2,496⟩,⟨3,557,2,492,2,497⟩,⟨3,558,2,492,2,498⟩,⟨3,559,2,492,2,499⟩],[⟨0,300,1⟩,⟨0,301,1⟩,⟨0,302,1⟩,⟨0,303,1⟩,⟨0,304,1⟩,⟨0,305,1⟩,⟨0,306,1⟩,⟨0,307,1⟩,⟨0,308,1⟩,⟨0,309,1⟩,⟨0,310,1⟩,⟨0,311,1⟩,⟨0,312,1⟩,⟨0,313,1⟩,⟨0,314,1⟩,⟨0,315,1⟩,⟨0,316,1⟩,⟨0,317,1⟩,⟨0,318,1⟩,⟨0,319,1⟩,⟨0,320,1⟩,⟨0,321,1⟩,⟨0,322,1⟩,⟨0,323,1⟩,⟨0,324,1⟩,⟨0,325,1⟩,⟨0,326,1⟩,⟨0,327,1⟩,⟨0,328,1⟩,⟨0,329,1⟩,⟨0,330,1⟩,⟨1,400,1⟩,⟨1,401,2⟩,⟨1,402,3⟩,⟨1,403,4⟩,⟨1,404,5⟩,⟨1,405,6⟩,⟨1,406,7⟩,⟨1,407,8⟩,⟨1,408,9⟩,⟨1,409,10⟩,⟨1,410,11⟩,⟨1,411,12⟩,⟨1,412,13⟩,⟨1,413,14⟩,⟨1,414,15⟩,⟨1,415,16⟩,⟨1,416,17⟩,⟨1,417,18⟩,⟨1,418,19⟩,⟨1,419,20⟩,⟨1,420,21⟩,⟨1,421,21⟩,⟨1,422,21⟩,⟨1,423,21⟩,⟨1,424,21⟩,⟨1,425,21⟩,⟨1,426,21⟩,⟨1,427,21⟩,⟨1,428,21⟩,⟨1,429,21⟩,⟨1,430,21⟩,⟨1,431,20⟩,⟨1,432,19⟩,⟨1,433,18⟩,⟨1,434,17⟩,⟨1,435,16⟩,⟨1,436,15⟩,⟨1,437,14⟩,⟨1,438,13⟩,⟨1,439,12⟩,⟨1,440,11⟩,⟨1,441,10⟩,⟨1,442,9⟩,⟨1,443,8⟩,⟨1,444,7⟩,⟨1,445,6⟩,⟨1,446,5⟩,⟨1,447,4⟩,⟨1,448,3⟩,⟨1,449,2⟩,⟨1,450,1⟩,⟨2,492,1⟩,⟨2,493,2⟩,⟨2,494,3⟩,⟨2,495,4⟩,⟨2,496,5⟩,⟨2,497,6⟩,⟨2,498,7⟩,⟨2,499,8⟩,⟨2,501,1⟩,⟨2,502,2⟩,⟨2,503,3⟩,⟨2,504,4⟩,⟨2,505,5⟩,⟨2,506,6⟩,⟨2,507,7⟩,⟨2,508,8⟩,⟨2,509,9⟩,⟨2,510,10⟩,⟨2,511,11⟩,⟨2,512,12⟩,⟨2,513,13⟩,⟨2,514,14⟩,⟨2,515,15⟩,⟨2,516,16⟩,⟨2,517,17⟩,⟨2,518,18⟩,⟨2,519,19⟩,⟨2,520,20⟩,⟨2,521,21⟩,⟨2,522,22⟩,⟨2,523,23⟩,⟨2,524,24⟩,⟨2,525,25⟩,⟨2,526,26⟩,⟨2,527,27⟩,⟨2,528,28⟩,⟨2,529,29⟩,⟨2,530,30⟩,⟨2,531,31⟩,⟨2,532,31⟩,⟨2,533,31⟩,⟨2,534,31⟩,⟨2,535,31⟩,⟨2,536,31⟩,⟨2,537,31⟩,⟨2,538,31⟩,⟨2,539,31⟩,⟨2,540,31⟩,⟨2,541,31⟩,⟨2,542,31⟩,⟨2,543,31⟩,⟨2,544,31⟩,⟨2,545,31⟩,⟨2,546,31⟩,⟨2,547,31⟩,⟨2,548,31⟩,⟨2,549,31⟩,⟨2,550,31⟩,⟨2,551,31⟩,⟨2,552,31⟩,⟨2,553,31⟩,⟨2,554,31⟩,⟨2,555,31⟩,⟨2,556,31⟩,⟨2,557,31⟩,⟨2,558,31⟩,⟨2,559,30⟩])
def ex96:List Arv × List Cnt:=([⟨0,300,0,0,-1,0⟩,⟨1,400,0,300,0,300⟩,⟨1,401,0,300,0,300⟩,⟨1,402,0,300,0,300⟩,⟨1,403,0,300,0,300⟩,⟨1,404,0,300,0,300⟩,⟨1,405,0,300,0,300⟩,⟨1,406,0,300,0,300⟩,⟨1,407,0,300,0,300⟩,⟨1,408,0,300,0,300⟩,⟨1,409,0,300,0,300⟩,⟨1,410,0,300,0,300⟩,⟨1,411,0,300,0,300⟩,⟨1,412,0,300,0,300⟩,⟨1,413,0,300,0,300⟩,⟨1,414,0,300,0,300⟩,⟨1,415,0,300,0,300⟩,⟨1,416,0,300,0,300⟩,⟨1,417,0,300,0,300⟩,⟨1,418,0,300,0,300⟩,⟨1,419,0,300,0,300⟩,⟨1,420,0,300,0,300⟩,⟨2,492,1,400,1,420⟩,⟨2,493,1,400,1,420⟩,⟨2,494,1,400,1,420⟩,⟨2,495,1,400,1,420⟩,⟨2,496,1,400,1,420⟩,⟨2,497,1,400,1,420⟩,⟨2,498,1,400,1,420⟩,⟨2,499,1,400,1,420⟩,⟨2,501,1,400,1,420⟩,⟨2,502,1,400,1,420⟩,⟨2,503,1,400,1,420⟩,⟨2,504,1,400,1,420⟩,⟨2,505,1,400,1,420⟩,⟨2,506,1,400,1,420⟩,⟨2,507,1,400,1,420⟩,⟨2,508,1,400,1,420⟩,⟨2,509,1,400,1,420⟩,⟨2,510,1,400,1,420⟩,⟨2,511,1,400,1,420⟩,⟨2,512,1,400,1,420⟩,⟨2,513,1,400,1,420⟩,⟨2,514,1,400,1,420⟩,⟨2,515,1,400,1,420⟩,⟨2,516,1,400,1,420⟩,⟨2,517,1,400,1,420⟩,⟨2,518,1,400,1,420⟩,⟨2,519,1,400,1,420⟩,⟨2,520,1,400,1,420⟩,⟨2,521,1,400,1,420⟩,⟨2,522,1,400,1,420⟩,⟨2,523,1,400,1,420⟩,⟨2,524,1,400,1,420⟩,⟨2,525,1,400,1,420⟩,⟨2,526,1,400,1,420⟩,⟨2,527,1,400,1,420⟩,⟨2,528,1,400,1,420⟩,⟨2,529,1,400,1,420⟩,⟨2,530,1,400,1,420⟩,⟨2,531,1,400,1,420⟩,⟨2,532,1,400,1,420⟩,⟨2,533,1,400,1,420⟩,⟨2,534,1,400,1,420⟩,⟨2,535,1,400,1,420⟩,⟨2,536,1,400,1,420⟩,⟨2,537,1,400,1,420⟩,⟨2,538,1,400,1,420⟩,⟨2,539,1,400,1,420⟩,⟨2,540,1,400,1,420⟩,⟨2,541,1,400,1,420⟩,⟨2,542,1,400,1,420⟩,⟨2,543,1,400,1,420⟩,⟨2,544,1,400,1,420⟩,⟨2,545,1,400,1,420⟩,⟨2,546,1,400,1,420⟩,⟨2,547,1,400,1,420⟩,⟨2,548,1,400,1,420⟩,⟨2,549,1,400,1,420⟩,⟨2,550,1,400,1,420⟩,⟨2,551,1,400,1,420⟩,⟨2,552,1,400,1,420⟩,⟨2,553,1,400,1,420⟩,⟨2,554,1,400,1,420⟩,⟨2,555,1,400,1,420⟩,⟨2,556,1,400,1,421⟩,⟨2,557,1,400,1,422⟩,⟨2,558,1,400,1,423⟩,⟨2,559,1,400,1,424⟩,⟨3,552,2,492,2,492⟩,⟨3,553,2,492,2,493⟩,⟨3,554,2,492,2,494⟩,⟨3,555,2,492,2,495⟩,⟨3,556,2,492,2,496⟩,⟨3,557,2,492,2,497⟩,⟨3,558,2,492,2,498⟩,⟨3,559,2,492,2,499⟩],[⟨0,300,1⟩,⟨0,301,1⟩,⟨0,302,1⟩,⟨0,303,1⟩,⟨0,304,1⟩,⟨0,305,1⟩,⟨0,306,1⟩,⟨0,307,1⟩,⟨0,308,1⟩,⟨0,309,1⟩,⟨0,310,1⟩,⟨0,311,1⟩,⟨0,312,1⟩,⟨0,313,1⟩,⟨0,314,1⟩,⟨0,315,1⟩,⟨0,316,1⟩,⟨0,317,1⟩,⟨0,318,1⟩,⟨0,319,1⟩,⟨0,320,1⟩,⟨0,321,1⟩,⟨0,322,1⟩,⟨0,323,1⟩,⟨0,324,1⟩,⟨0,325,1⟩,⟨0,326,1⟩,⟨0,327,1⟩,⟨0,328,1⟩,⟨0,329,1⟩,⟨0,330,1⟩,⟨1,400,1⟩,⟨1,401,2⟩,⟨1,402,3⟩,⟨1,403,4⟩,⟨1,404,5⟩,⟨1,405,6⟩,⟨1,406,7⟩,⟨1,407,8⟩,⟨1,408,9⟩,⟨1,409,10⟩,⟨1,410,11⟩,⟨1,411,12⟩,⟨1,412,13⟩,⟨1,413,14⟩,⟨1,414,15⟩,⟨1,415,16⟩,⟨1,416,17⟩,⟨1,417,18⟩,⟨1,418,19⟩,⟨1,419,20⟩,⟨1,420,21⟩,⟨1,421,21⟩,⟨1,422,21⟩,⟨1,423,21⟩,⟨1,424,21⟩,⟨1,425,21⟩,⟨1,426,21⟩,⟨1,427,21⟩,⟨1,428,21⟩,⟨1,429,21⟩,⟨1,430,21⟩,⟨1,431,20⟩,⟨1,432,19⟩,⟨1,433,18⟩,⟨1,434,17⟩,⟨1,435,16⟩,⟨1,436,15⟩,⟨1,437,14⟩,⟨1,438,13⟩,⟨1,439,12⟩,⟨1,440,11⟩,⟨1,441,10⟩,⟨1,442,9⟩,⟨1,443,8⟩,⟨1,444,7⟩,⟨1,445,6⟩,⟨1,446,5⟩,⟨1,447,4⟩,⟨1,448,3⟩,⟨1,449,2⟩,⟨1,450,1⟩,⟨2,492,1⟩,⟨2,493,2⟩,⟨2,494,3⟩,⟨2,495,4⟩,⟨2,496,5⟩,⟨2,497,6⟩,⟨2,498,7⟩,⟨2,499,8⟩,⟨2,501,1⟩,⟨2,502,2⟩,⟨2,503,3⟩,⟨2,504,4⟩,⟨2,505,5⟩,⟨2,506,6⟩,⟨2,507,7⟩,⟨2,508,8⟩,⟨2,509,9⟩,⟨2,510,10⟩,⟨2,511,11⟩,⟨2,512,12⟩,⟨2,513,13⟩,⟨2,514,14⟩,⟨2,515,15⟩,⟨2,516,16⟩,⟨2,517,17⟩,⟨2,518,18⟩,⟨2,519,19⟩,⟨2,520,20⟩,⟨2,521,21⟩,⟨2,522,22⟩,⟨2,523,23⟩,⟨2,524,24⟩,⟨2,525,25⟩,⟨2,526,26⟩,⟨2,527,27⟩,⟨2,528,28⟩,⟨2,529,29⟩,⟨2,530,30⟩,⟨2,531,31⟩,⟨2,532,31⟩,⟨2,533,31⟩,⟨2,534,31⟩,⟨2,535,31⟩,⟨2,536,31⟩,⟨2,537,31⟩,⟨2,538,31⟩,⟨2,539,31⟩,⟨2,540,31⟩,⟨2,541,31⟩,⟨2,542,31⟩,⟨2,543,31⟩,⟨2,544,31⟩,⟨2,545,31⟩,⟨2,546,31⟩,⟨2,547,31⟩,⟨2,548,31⟩,⟨2,549,31⟩,⟨2,550,31⟩,⟨2,551,31⟩,⟨2,552,31⟩,⟨2,553,31⟩,⟨2,554,31⟩,⟨2,555,31⟩,⟨2,556,31⟩,⟨2,557,31⟩,⟨2,558,31⟩,⟨2,559,31⟩,⟨3,552,1⟩,⟨3,553,2⟩,⟨3,554,3⟩,⟨3,555,4⟩,⟨3,556,5⟩,⟨3,557,6⟩,⟨3,558,7⟩,⟨3,559,7⟩,⟨3,560,7⟩,⟨3,561,7⟩,⟨3,562,7⟩,⟨3,563,7⟩,⟨3,564,7⟩,⟨3,565,7⟩,⟨3,566,7⟩,⟨3,567,7⟩,⟨3,568,7⟩,⟨3,569,7⟩,⟨3,570,7⟩,⟨3,571,7⟩,⟨3,572,7⟩,⟨3,573,7⟩,⟨3,574,7⟩,⟨3,575,7⟩,⟨3,576,7⟩,⟨3,577,7⟩,⟨3,578,7⟩,⟨3,579,7⟩,⟨3,580,7⟩,⟨3,581,7⟩,⟨3,582,7⟩,⟨3,583,6⟩,⟨3,584,5⟩,⟨3,585,4⟩,⟨3,586,3⟩,⟨3,587,2⟩,⟨3,588,1⟩])
def ex104:List Arv × List Cnt:=([⟨0,300,0,0,-1,0⟩,⟨1,400,0,300,0,300⟩,⟨1,401,0,300,0,300⟩,⟨1,402,0,300,0,300⟩,⟨1,403,0,300,0,300⟩,⟨1,404,0,300,0,300⟩,⟨1,405,0,300,0,300⟩,⟨1,406,0,300,0,300⟩,⟨1,407,0,300,0,300⟩,⟨1,408,0,300,0,300⟩,⟨1,409,0,300,0,300⟩,⟨1,410,0,300,0,300⟩,⟨1,411,0,300,0,300⟩,⟨1,412,0,300,0,300⟩,⟨1,413,0,300,0,300⟩,⟨1,414,0,300,0,300⟩,⟨1,415,0,300,0,300⟩,⟨1,416,0,300,0,300⟩,⟨1,417,0,300,0,300⟩,⟨1,418,0,300,0,300⟩,⟨1,419,0,300,0,300⟩,⟨1,420,0,300,0,300⟩,⟨2,492,1,400,1,420⟩,⟨2,493,1,400,1,420⟩,⟨2,494,1,400,1,420⟩,⟨2,495,1,400,1,420⟩,⟨2,496,1,400,1,420⟩,⟨2,497,1,400,1,420⟩,⟨2,498,1,400,1,420⟩,⟨2,499,1,400,1,420⟩,⟨2,501,1,400,1,420⟩,⟨2,502,1,400,1,420⟩,⟨2,503,1,400,1,420⟩,⟨2,504,1,400,1,420⟩,⟨2,505,1,400,1,420⟩,⟨2,506,1,400,1,420⟩,⟨2,507,1,400,1,420⟩,⟨2,508,1,400,1,420⟩,⟨2,509,1,400,1,420⟩,⟨2,510,1,400,1,420⟩,⟨2,511,1,400,1,420⟩,⟨2,512,1,400,1,420⟩,⟨2,513,1,400,1,420⟩,⟨2,514,1,400,1,420⟩,⟨2,515,1,400,1,420⟩,⟨2,516,1,400,1,420⟩,⟨2,517,1,400,1,420⟩,⟨2,518,1,400,1,420⟩,⟨2,519,1,400,1,420⟩,⟨2,520,1,400,1,420⟩,⟨2,521,1,400,1,420⟩,⟨2,522,1,400,1,420⟩,⟨2,523,1,400,1,420⟩,⟨2,524,1,400,1,420⟩,⟨2,525,1,400,1,420⟩,⟨2,526,1,400,1,420⟩,⟨2,527,1,400,1,420⟩,⟨2,528,1,400,1,420⟩,⟨2,529,1,400,1,420⟩,⟨2,530,1,400,1,420⟩,⟨2,531,1,400,1,420⟩,⟨2,532,1,400,1,420⟩,⟨2,533,1,400,1,420⟩,⟨2,534,1,400,1,420⟩,⟨2,535,1,400,1,420⟩,⟨2,536,1,400,1,420⟩,⟨2,537,1,400,1,420⟩,⟨2,538,1,400,1,420⟩,⟨2,539,1,400,1,420⟩,⟨2,540,1,400,1,420⟩,⟨2,541,1,400,1,420⟩,⟨2,542,1,400,1,420⟩,⟨2,543,1,400,1,420⟩,⟨2,544,1,400,1,420⟩,⟨2,545,1,400,1,420⟩,⟨2,546,1,400,1,420⟩,⟨2,547,1,400,1,420⟩,⟨2,548,1,400,1,420⟩,⟨2,549,1,400,1,420⟩,⟨2,550,1,400,1,420⟩,⟨2,551,1,400,1,420⟩,⟨2,552,1,400,1,420⟩,⟨2,553,1,400,1,420⟩,⟨2,554,1,400,1,420⟩,⟨2,555,1,400,1,420⟩,⟨2,556,1,400,1,421⟩,⟨2,557,1,400,1,422⟩,⟨2,558,1,400,1,423⟩,⟨2,559,1,400,1,424⟩,⟨3,552,2,492,2,492⟩,⟨3,553,2,492,2,493⟩,⟨3,554,2,492,2,494⟩,⟨3,555,2,492,2,495⟩,⟨3,556,2,492,2,496⟩,⟨3,557,2,492,2,497⟩,⟨3,558,2,492,2,498⟩,⟨3,559,2,492,2,499⟩],[⟨0,300,1⟩,⟨0,301,1⟩,⟨0,302,1⟩,⟨0,303,1⟩,⟨0,304,1⟩,⟨0,305,1⟩,⟨0,306,1⟩,⟨0,307,1⟩,⟨0,308,1⟩,⟨0,309,1⟩,⟨0,310,1⟩,⟨0,311,1⟩,⟨0,312,1⟩,⟨0,313,1⟩,⟨0,314,1⟩,⟨0,315,1⟩,⟨0,316,1⟩,⟨0,317,1⟩,⟨0,318,1⟩,⟨0,319,1⟩,⟨0,320,1⟩,⟨0,321,1⟩,⟨0,322,1⟩,⟨0,323,1⟩,⟨0,324,1⟩,⟨0,325,1⟩,⟨0,326,1⟩,⟨0,327,1⟩,⟨0,328,1⟩,⟨0,329,1⟩,⟨0,330,1⟩,⟨1,400,1⟩,⟨1,401,2⟩,⟨1,402,3⟩,⟨1,403,4⟩,⟨1,404,5⟩,⟨1,405,6⟩,⟨1,406,7⟩,⟨1,407,8⟩,⟨1,408,9⟩,⟨1,409,10⟩,⟨1,410,11⟩,⟨1,411,12⟩,⟨1,412,13⟩,⟨1,413,14⟩,⟨1,414,15⟩,⟨1,415,16⟩,⟨1,416,17⟩,⟨1,417,18⟩,⟨1,418,19⟩,⟨1,419,20⟩,⟨1,420,21⟩,⟨1,421,21⟩,⟨1,422,21⟩,⟨1,423,21⟩,⟨1,424,21⟩,⟨1,425,21⟩,⟨1,426,21⟩,⟨1,427,21⟩,⟨1,428,21⟩,⟨1,429,21⟩,⟨1,430,21⟩,⟨1,431,20⟩,⟨1,432,19⟩,⟨1,433,18⟩,⟨1,434,17⟩,⟨1,435,16⟩,⟨1,436,15⟩,⟨1,437,14⟩,⟨1,438,13⟩,⟨1,439,12⟩,⟨1,440,11⟩,⟨1,441,10⟩,⟨1,442,9⟩,⟨1,443,8⟩,⟨1,444,7⟩,⟨1,445,6⟩,⟨1,446,5⟩,⟨1,447,4⟩,⟨1,448,3⟩,⟨1,449,2⟩,⟨1,450,1⟩,⟨2,492,1⟩,⟨2,493,2⟩,⟨2,494,3⟩,⟨2,495,4⟩,⟨2,496,5⟩,⟨2,497,6⟩,⟨2,498,7⟩,⟨2,499,8⟩,⟨2,501,1⟩,⟨2,502,2⟩,⟨2,503,3⟩,⟨2,504,4⟩,⟨2,505,5⟩,⟨2,506,6⟩,⟨2,507,7⟩,⟨2,508,8⟩,⟨2,509,9⟩,⟨2,510,10⟩,⟨2,511,11⟩,⟨2,512,12⟩,⟨2,513,13⟩,⟨2,514,14⟩,⟨2,515,15⟩,⟨2,516,16⟩,⟨2,517,17⟩,⟨2,518,18⟩,⟨2,519,19⟩,⟨2,520,20⟩,⟨2,521,21⟩,⟨2,522,22⟩,⟨2,523,23⟩,⟨2,524,24⟩,⟨2,525,25⟩,⟨2,526,26⟩,⟨2,527,27⟩,⟨2,528,28⟩,⟨2,529,29⟩,⟨2,530,30⟩,⟨2,531,31⟩,⟨2,532,31⟩,⟨2,533,31⟩,⟨2,534,31⟩,⟨2,535,31⟩,⟨2,536,31⟩,⟨2,537,31⟩,⟨2,538,31⟩,⟨2,539,31⟩,⟨2,540,31⟩,⟨2,541,31⟩,⟨2,542,31⟩,⟨2,543,31⟩,⟨2,544,31⟩,⟨2,545,31⟩,⟨2,546,31⟩,⟨2,547,31⟩,⟨2,548,31⟩,⟨2,549,31⟩,⟨2,550,31⟩,⟨2,551,31⟩,⟨2,552,31⟩,⟨2,553,31⟩,⟨2,554,31⟩,⟨2,555,31⟩,⟨2,556,31⟩,⟨2,557,31⟩,⟨2,558,31⟩,⟨2,559,31⟩,⟨3,552,1⟩,⟨3,553,2⟩,⟨3,554,3⟩,⟨3,555,4⟩,⟨3,556,5⟩,⟨3,557,6⟩,⟨3,558,7⟩,⟨3,559,8⟩,⟨3,560,8⟩,⟨3,561,8⟩,⟨3,562,8⟩,⟨3,563,8⟩,⟨3,564,8⟩,⟨3,565,8⟩,⟨3,566,8⟩,⟨3,567,8⟩,⟨3,568,8⟩,⟨3,569,8⟩,⟨3,570,8⟩,⟨3,571,8⟩,⟨3,572,8⟩,⟨3,573,8⟩,⟨3,574,8⟩,⟨3,575,8⟩,⟨3,576,8⟩,⟨3,577,8⟩,⟨3,578,8⟩,⟨3,579,8⟩,⟨3,580,8⟩,⟨3,581,8⟩,⟨3,582,8⟩,⟨3,583,7⟩,⟨3,584,6⟩,⟨3,585,5⟩,⟨3,586,4⟩,⟨3,587,3⟩,⟨3,588,2⟩,⟨3,589,1⟩])
theorem z1370:goF exN exM 8 0 ex0=ex8:=by decide +kernel
theorem z1322:goF exN exM 8 8 ex8=ex16:=by decide +kernel
theorem z1321:goF exN exM 8 16 ex16=ex24:=by decide +kernel
theorem z1320:goF exN exM 8 24 ex24=ex32:=by decide +kernel
theorem z1319:goF exN exM 8 32 ex32=ex40:=by decide +kernel
theorem z1318:goF exN exM 8 40 ex40=ex48:=by decide +kernel
theorem z1317:goF exN exM 8 48 ex48=ex56:=by decide +kernel
theorem z1316:goF exN exM 8 56 ex56=ex64:=by decide +kernel
theorem z1315:goF exN exM 8 64 ex64=ex72:=by decide +kernel
theorem z1314:goF exN exM 8 72 ex72=ex80:=by decide +kernel
theorem z1313:goF exN exM 8 80 ex80=ex88:=by decide +kernel
theorem z1312:goF exN exM 8 88 ex88=ex96:=by decide +kernel
theorem z1267:goF exN exM 8 96 ex96=ex104:=by decide +kernel
theorem z1186:startA exM=ex0.1:=by decide +kernel
theorem z1096:huntedA exN exM=ex104.1:=by
 rw [huntedA,show boundN exN exM + 1=1101 + 8 + 8 + 8 + 8 + 8 + 8 + 8 + 8 + 8 + 8 + 8 + 8 + 8 by decide +kernel,z1186,show (ex0.1,([]:List Cnt))=ex0 from rfl]
 rw [z28 8 0,z1370,show 0 + 8=8 from rfl]
 rw [z28 8 8,z1322,show 8 + 8=16 from rfl]
 rw [z28 8 16,z1321,show 16 + 8=24 from rfl]
 rw [z28 8 24,z1320,show 24 + 8=32 from rfl]
 rw [z28 8 32,z1319,show 32 + 8=40 from rfl]
 rw [z28 8 40,z1318,show 40 + 8=48 from rfl]
 rw [z28 8 48,z1317,show 48 + 8=56 from rfl]
 rw [z28 8 56,z1316,show 56 + 8=64 from rfl]
 rw [z28 8 64,z1315,show 64 + 8=72 from rfl]
 rw [z28 8 72,z1314,show 72 + 8=80 from rfl]
 rw [z28 8 80,z1313,show 80 + 8=88 from rfl]
 rw [z28 8 88,z1312,show 88 + 8=96 from rfl]
 rw [z28 8 96,z1267,show 96 + 8=104 from rfl]
 rw [z287 (show ex104.1[104]?=none by decide +kernel)]
theorem z196 {α β γ:Type} (g:γ→β→γ) (f:α→List β):∀ (l:List α) (c:γ),(l.flatMap f).foldl g c=l.foldl (fun c a=>(f a).foldl g c) c
 | [],c=>rfl
 | a::l,c=>by rw [List.flatMap_cons,List.foldl_append,z196 g f l,List.foldl_cons]
theorem z1128:tallyE exN (endsL exN exM (huntedA exN exM))=([0,0,0,8],[0,0,0,0,212]):=by
 rw [z1096,tallyE,endsL,z196]
 decide +kernel
end Go.Ab
namespace Go.Ab
open Go.RowKit Go.Proofs
set_option maxHeartbeats 8000000
set_option maxRecDepth 20000
attribute [local irreducible] WalkL Walk
theorem z1211:openX exN exM=0:=by decide +kernel
theorem z1151:posL [0,0,0,8]=[3]:=by decide +kernel
theorem z1150:posL [0,0,0,0,212]=[4]:=by decide +kernel
theorem z1122:whereC exN exM=([3],[4],0):=by
 rw [whereC,if_neg (by rw [z1211];simp),whereP,whereW,z1128,z1151,z1150,if_neg (by simp)]
end Go.Ab
namespace Go.Ab
open Go.RowKit Go.Proofs
set_option maxHeartbeats 8000000
set_option maxRecDepth 20000
attribute [local irreducible] WalkL Walk
theorem z1284 (a b:List Int) (ha:a.length<2 ^ 30):Fn Tryd.prog 47 [.sl (intRows a),.sl (intRows b)] (.bool (decide (a=b))):=by
 refine z10 26 Tryd.call47 Tryd.func47 rfl (by decide) fun J=>?_
 simp only [go_sem,St.start,Tryd.ntmps47,Tryd.results47]
 repeat (first | refine nx ?_ | (refine z3 fun K hK=>?_;simp only [go_sem,z18];apply hK;clear hK K))
 by_cases hl:a.length=b.length
 ·have hne:((a.length:Int) != (b.length:Int))=false:=by simp [hl]
  simp only [go_sem,hne]
  refine z6 rfl ?_
  repeat (first | refine nx ?_ | (refine z3 fun K hK=>?_;simp only [go_sem];apply hK;clear hK K))
  refine z13 (fun (i:Nat)=>[(5,.d (.i i))]) (fun _=>[]) (fun i=>i≤a.length∧a.take i=b.take i) (fun i=>a.length - i) 0 ?_ ⟨Nat.zero_le _,by simp⟩ ?_
  ·simp only [go_sem]
   refine weA ?_ ?_ <;> simp
  ·intro i ⟨hi,heq⟩
   simp only [go_sem]
   repeat (first | refine nx ?_ | (refine z3 fun K hK=>?_;simp only [go_sem,z18];apply hK;clear hK K))
   refine z5 rfl (fun hb=>?_) (fun hb=>?_)
   ·have hlt:i<a.length:=by simpa using hb
    have hw:IntKind.i64.wrap ((i:Int) + 1)=((i + 1:Nat):Int):=by rw [z11 (by omega)];simp
    obtain ⟨x,hx⟩:∃ x,a[i]?=some x:=⟨_,List.getElem?_eq_getElem hlt⟩
    obtain ⟨y,hy⟩:∃ y,b[i]?=some y:=⟨_,List.getElem?_eq_getElem (hl ▸ hlt)⟩
    have g1:=z257 hx
    have g2:=z257 hy
    repeat (first | refine nx ?_ | (refine z3 fun K hK=>?_;simp only [go_sem];apply hK;clear hK K))
    refine z8 (by kernel_rfl) (by kernel_rfl) fun K hK=>?_
    simp only [go_sem,g1,g2]
    refine ⟨by kernel_rfl,hK _ ?_⟩
    clear hK K
    refine z5 rfl (fun hc=>?_) (fun hc=>?_)
    ·have hc:¬ x=y:=by simpa using hc
     have hab:¬ a=b:=by rintro rfl;rw [hx] at hy;cases hy;exact hc rfl
     repeat (first | refine nx ?_ | (refine z3 fun K hK=>?_;simp only [go_sem];apply hK;clear hK K))
     simp only [go_sem,hab]
    ·have hc:x=y:=by simpa using hc
     repeat (first | refine nx ?_ | (refine z3 fun K hK=>?_;simp only [go_sem,hw];apply hK;clear hK K))
     refine ⟨rfl,i + 1,?_,⟨hlt,by rw [List.take_add_one,List.take_add_one,heq,hx,hy,hc]⟩,by omega⟩
     refine weA ?_ ?_ <;> simp
   ·have he:i=a.length:=by (have:¬ i<a.length:=by simpa using hb);omega
    subst he
    have hab:a=b:=z332 hl heq
    repeat (first | refine nx ?_ | (refine z3 fun K hK=>?_;simp only [go_sem];apply hK;clear hK K))
    simp only [go_sem,hab]
 ·have hne:((a.length:Int) != (b.length:Int))=true:=by simp;omega
  have hab:¬ a=b:=by rintro rfl;exact hl rfl
  simp only [go_sem,hne]
  refine z9 rfl ?_
  repeat (first | refine nx ?_ | (refine z3 fun K hK=>?_;simp only [go_sem];apply hK;clear hK K))
  simp only [go_sem,hab]
def exS:List SpotT:=[⟨3,50,60⟩,⟨1,30,20⟩,⟨2,20,40⟩]
def exW:List (List Int):=[[0,120,255,315],[435,0,135,195],[300,420,0,60],[240,360,495,0]]
def ordB (F:Mat) (S:List SpotT):Nat→Nat→Nat→MemB→Bool
 | 0,_,s,_=>s == 0
 | f + 1,p,s,m=>s == 0 || (elems s).any fun i=>decide ((bestM F S 5 p s m).1.2=(i:Int)) && ordB F S f (nextP S i) (s - 2 ^ i) (bestM F S 5 p s m).2
theorem z1067 {F:Mat} {S:List SpotT}:∀ (f p s:Nat) (m:MemB),ordB F S f p s m=true→OrdOk F S f p s m
 | 0,_,_,_,h=>by simpa [ordB,OrdOk] using h
 | f + 1,p,s,m,h=>by
  rw [ordB,Bool.or_eq_true,beq_iff_eq,List.any_eq_true] at h
  rcases h with h | ⟨i,hi,h⟩
  ·exact .inl h
  ·rw [Bool.and_eq_true,decide_eq_true_eq] at h
   exact .inr ⟨i,hi,h.1,z1067 f _ _ _ h.2⟩
theorem z1235:exN.Good:=z156.1 fun hb=>by
 have hok:checkPartyF exN exP=0:=by decide +kernel
 rw [checkPartyF,if_pos hb] at hok;simp at hok
theorem z1233:allLL exN exP=exW:=by decide +kernel
theorem z1269:matM exN.places.toNat (allM exN exP)=matM exN.places.toNat (getL exW):=by
 rw [← z1239 exP z1235,z1233]
 decide +kernel
theorem z1268:ordB (getL exW) exS 5 0 (fullN exS) (bestP (getL exW) exS 0).2=true:=by decide +kernel
theorem z1234:planC exN exP (getL exW) 0 exS=([1,2,0],32250,0):=by decide +kernel
theorem z1367:Fn Tryd.prog 14 [] (.bool true):=by
 have h46:=z1357
 have h15:=z1338 exN exM z905 (by decide)
 have h21:=z1366 exN exP (getL exW) 0 exS z905 (.inl (by decide)) (by decide) (fun _=>z1269) (fun _ _=>z1067 _ _ _ _ z1268)
 have h47:=z1284 [3] [3] (by decide)
 have h48:=z1284 [4] [4] (by decide)
 have h49:=z1284 [1,2,0] [1,2,0] (by decide)
 rw [whereD,z1122] at h15
 rw [planD,z1234] at h21
 rw [Missed.row,exM] at h15 h46
 rw [exSpots] at h46
 simp only [exS,intRows,SpotT.row,List.map_cons,List.map_nil,decide_true] at h15 h21 h47 h48 h49
 obtain ⟨N,hN⟩:∃ N,N=exN:=⟨_,rfl⟩
 obtain ⟨p,hp⟩:∃ p,p=exP:=⟨_,rfl⟩
 rw [← hN,← hp] at *
 rw [Net.cells] at *
 rw [Party.cells] at *
 refine z10 56 Tryd.call14 Tryd.func14 rfl (by decide) fun J=>?_
 simp only [go_sem,St.start,Tryd.ntmps14,Tryd.results14,]
 repeat (first | refine nx ?_ | (refine z3 fun K hK=>?_;simp only [go_sem];(repeat (first | (refine ⟨_,.lent (hf:=h46) (hd:=rfl) (hr:=rfl),?_⟩;simp only [go_sem]) | (refine ⟨_,.lent (hf:=h15) (hd:=rfl) (hr:=rfl),?_⟩;simp only [go_sem]) | (refine ⟨_,.lent (hf:=h21) (hd:=rfl) (hr:=rfl),?_⟩;simp only [go_sem]) | (refine ⟨_,.lent (hf:=h47) (hd:=rfl) (hr:=rfl),?_⟩;simp only [go_sem]) | (refine ⟨_,.lent (hf:=h48) (hd:=rfl) (hr:=rfl),?_⟩;simp only [go_sem]) | (refine ⟨_,.lent (hf:=h49) (hd:=rfl) (hr:=rfl),?_⟩;simp only [go_sem]) | (refine ⟨_,.given (hf:=h46) (hd:=rfl) (ha:=rfl),?_⟩;simp only [go_sem]) | (refine ⟨_,.given (hf:=h15) (hd:=rfl) (ha:=rfl),?_⟩;simp only [go_sem]) | (refine ⟨_,.given (hf:=h21) (hd:=rfl) (ha:=rfl),?_⟩;simp only [go_sem]) | (refine ⟨_,.given (hf:=h47) (hd:=rfl) (ha:=rfl),?_⟩;simp only [go_sem]) | (refine ⟨_,.given (hf:=h48) (hd:=rfl) (ha:=rfl),?_⟩;simp only [go_sem]) | (refine ⟨_,.given (hf:=h49) (hd:=rfl) (ha:=rfl),?_⟩;simp only [go_sem])));apply hK;clear hK K))
 simp only [go_sem]
end Go.Ab
namespace Go.Ab
open Go.RowKit Go.Proofs
set_option maxHeartbeats 2000000
def memA (A:List Arv) (p m:Int):Prop:=∃ a ∈ A,a.pl=p∧a.mi=m
theorem z115 {A B:List Arv} (h:A <+: B) {p m:Int} (hm:memA A p m):memA B p m:=by
 obtain ⟨a,ha,h1⟩:=hm
 exact ⟨a,h.subset ha,h1⟩
theorem z1165 {A:List Arv} {a:Arv}:A.any (sameS a)=true↔memA A a.pl a.mi:=by
 simp only [List.any_eq_true,sameS,Bool.and_eq_true,beq_iff_eq,memA]
theorem z359 (cl:List Clue) (A:List Arv) (a:Arv):A <+: arriveA cl A a:=by
 rw [arriveA];split
 ·exact List.prefix_refl _
 ·exact List.prefix_append _ _
theorem z360 {cl:List Clue} {A:List Arv} {a:Arv} (h:atB cl a.pl a.mi=true):memA (arriveA cl A a) a.pl a.mi:=by
 rw [arriveA,h,Bool.not_true,Bool.or_false]
 split
 ·rename_i hc;exact z1165.1 hc
 ·exact ⟨a,by simp,rfl,rfl⟩
theorem z308 (cl:List Clue) (lo hi:Int) (mk:Int→Arv):∀ (ws:List (Int × Bool)) (A:List Arv),A <+: walkA cl lo hi mk ws A
 | [],A=>List.prefix_refl _
 | w::ws,A=>by
  rw [walkA];split
  ·exact List.prefix_refl _
  ·refine List.IsPrefix.trans ?_ (z308 cl lo hi mk ws _)
   split
   ·exact z359 _ _ _
   ·exact List.prefix_refl _
theorem z573 {cl:List Clue} {lo hi t:Int} {b:Bool} {mk:Int→Arv} (hmk:(mk t).mi=t) (hat:atB cl (mk t).pl t=true) (h1:lo≤t) (h2:t≤hi):∀ (f:Nat) (m:Int) (A:List Arv),(t,b) ∈ walksF cl f m→memA (walkA cl lo hi mk (walksF cl f m) A) (mk t).pl t
 | 0,m,A,h=>by simp [walksF] at h
 | f + 1,m,A,h=>by
  rw [walksF] at h ⊢
  rw [walkA]
  rcases List.mem_cons.1 h with h | h
  ·cases h
   have e1:¬ ((t,onB8 cl t):Int × Bool).1 > hi:=by show ¬ t > hi;omega
   have e2:((t,onB8 cl t):Int × Bool).1 ≥ lo:=h1
   rw [if_neg e1,if_pos e2]
   have:=z360 (cl:=cl) (A:=A) (a:=mk t) (by rw [hmk];exact hat)
   rw [hmk] at this
   exact z115 (z308 _ _ _ _ _ _) this
  ·split at h
   ·rename_i hc
    have hr:=z165 h
    have e1:¬ ((m,onB8 cl m):Int × Bool).1 > hi:=by show ¬ m > hi;have:m + 1≤t:=hr.1;omega
    rw [if_neg e1,if_pos hc]
    exact z573 hmk hat h1 h2 f (m + 1) _ h
   ·simp at h
def arrFrom (n:Net) (x:Missed) (p lv to t:Int):Prop:=∃ (k:Nat) (y:Path) (b:Bool),n.paths[k]?=some y∧y.frm=p∧y.grade≤x.party.grade∧y.to=to ∧
 wr (lv + (spanW y x.party).lo)≤t∧t≤wr (lv + (spanW y x.party).hi)∧(t,b) ∈ walksL x lv∧atB x.clues to t=true
theorem z328 (n:Net) (x:Missed) (p m lv:Int) (A:List Arv) (k:Nat):A <+: pathA n x p m lv A k:=by
 rw [pathA];split
 ·split
  ·exact z308 _ _ _ _ _ _
  ·exact List.prefix_refl _
 ·exact List.prefix_refl _
theorem z446 (n:Net) (x:Missed) (p m lv:Int):∀ (k:Nat) (A:List Arv),A <+: pathsA n x p m lv k A
 | 0,A=>List.prefix_refl _
 | k + 1,A=>by
  rw [pathsA,List.range_succ,List.foldl_append]
  exact (z446 n x p m lv k A).trans (z328 _ _ _ _ _ _ _)
theorem z987 {n:Net} {x:Missed} {p m lv to t:Int} (h:arrFrom n x p lv to t):∀ (k:Nat) (A:List Arv),n.paths.length≤k→memA (pathsA n x p m lv k A) to t:=by
 obtain ⟨j,y,b,h1,h2,h3,h4,h5,h6,h7,h8⟩:=h
 have hj:=(List.getElem?_eq_some_iff.1 h1).1
 have hstep:∀ k,j<k→∀ A,memA (pathsA n x p m lv k A) to t:=by
  intro k
  induction k with
  | zero=>intro h;omega
  | succ k ih =>
   intro hjk A
   rw [pathsA,List.range_succ,List.foldl_append]
   by_cases hk:j<k
   ·exact z115 (z328 _ _ _ _ _ _ _) (ih hk A)
   ·obtain rfl:j=k:=by omega
    simp only [List.foldl_cons,List.foldl_nil]
    rw [pathA,h1]
    dsimp only
    rw [if_pos ⟨h2,h3⟩,← h4]
    exact z573 (mk:=fun t=>⟨y.to,t,p,m,j,lv⟩) rfl (by rw [h4];exact h8) h5 h6 _ _ _ h7
 exact fun k A hk=>hstep k (by omega) A
def Closed (n:Net) (x:Missed) (a:List Arv × List Cnt):Prop:=∀ p lv,hasL a.2 p lv=true→∀ to t,arrFrom n x p lv to t→memA a.1 to t
theorem z224 {p m q u:Int}:∀ (l:List Cnt),hasL (bumpL l p m) q u=true↔hasL l q u=true∨(q=p∧u=m)
 | []=>by simp [bumpL,hasL];exact ⟨fun ⟨a,b⟩=>⟨a.symm,b.symm⟩,fun ⟨a,b⟩=>⟨a.symm,b.symm⟩⟩
 | a::l=>by
  rw [bumpL]
  split
  ·rename_i ha
   simp only [hasL,List.any_cons,Bool.or_eq_true,decide_eq_true_eq]
   constructor
   ·rintro (h | h)
    ·exact .inl (.inl h)
    ·exact .inl (.inr h)
   ·rintro ((h | h) | ⟨rfl,rfl⟩)
    ·exact .inl h
    ·exact .inr h
    ·exact .inl ha
  ·have:=z224 (p:=p) (m:=m) (q:=q) (u:=u) l
   simp only [hasL,List.any_cons,Bool.or_eq_true] at this ⊢
   rw [this]
   constructor
   ·rintro (h | h | h)
    ·exact .inl (.inl h)
    ·exact .inl (.inr h)
    ·exact .inr h
   ·rintro ((h | h) | h)
    ·exact .inl h
    ·exact .inr (.inl h)
    ·exact .inr (.inr h)
theorem z1107 {p m:Int}:∀ (l:List Cnt),hasL l p m=false→cntL l p m=0
 | [],_=>rfl
 | a::l,h=>by
  simp only [hasL,List.any_cons,Bool.or_eq_false_iff,decide_eq_false_iff_not] at h
  rw [cntL,if_neg h.1]
  exact z1107 l h.2
theorem z250 (n:Net) (x:Missed) (p m:Int) (a:List Arv × List Cnt) (lv:Int):a.1 <+: (leaveA n x p m a lv).1:=by
 rw [leaveA];split
 ·exact List.prefix_refl _
 ·exact z446 _ _ _ _ _ _ _
theorem z251 {n:Net} {x:Missed} {p m lv q u:Int} {a:List Arv × List Cnt}:hasL (leaveA n x p m a lv).2 q u=true↔hasL a.2 q u=true∨(q=p∧u=lv):=by
 have:(leaveA n x p m a lv).2=bumpL a.2 p lv:=by rw [leaveA];split <;> rfl
 rw [this,z224]
theorem z539 {n:Net} {x:Missed} {p m lv:Int} {a:List Arv × List Cnt} (h:Closed n x a):Closed n x (leaveA n x p m a lv):=by
 intro q u hq to t ht
 by_cases hqu:q=p∧u=lv
 ·obtain ⟨rfl,rfl⟩:=hqu
  rw [leaveA]
  split
  ·rename_i hc
   refine h q u ?_ to t ht
   cases hh:hasL a.2 q u
   ·rw [z353,z1107 _ hh] at hc
    exact absurd hc (by decide)
   ·rfl
  ·exact z987 ht _ _ (Nat.le_refl _)
 ·rcases z251.1 hq with h1 | h1
  ·exact z115 (z250 _ _ _ _ _ _) (h q u h1 to t ht)
  ·exact absurd h1 hqu
theorem z453 (n:Net) (x:Missed) (p m:Int):∀ (l:List Int) (a:List Arv × List Cnt),a.1 <+: (l.foldl (leaveA n x p m) a).1
 | [],a=>List.prefix_refl _
 | v::l,a=>(z250 n x p m a v).trans (z453 n x p m l _)
theorem z339 {n:Net} {x:Missed} {p m:Int}:∀ (l:List Int) (a:List Arv × List Cnt),Closed n x a→Closed n x (l.foldl (leaveA n x p m) a)∧(∀ q u,hasL a.2 q u=true→hasL (l.foldl (leaveA n x p m) a).2 q u=true)∧∀ v ∈ l,hasL (l.foldl (leaveA n x p m) a).2 p v=true
 | [],a,h=>⟨h,fun _ _ h=>h,fun v hv=>by simp at hv⟩
 | v::l,a,h=>by
  obtain ⟨h1,h2,h3⟩:=z339 l (leaveA n x p m a v) (z539 h)
  refine ⟨h1,fun q u hq=>h2 q u (z251.2 (.inl hq)),fun u hu=>?_⟩
  rcases List.mem_cons.1 hu with rfl | hu
  ·exact h2 _ _ (z251.2 (.inr ⟨rfl,rfl⟩))
  ·exact h3 u hu
def Looked (n:Net) (x:Missed) (i:Nat) (a:List Arv × List Cnt):Prop:=Closed n x a∧∀ (j:Nat) s,j<i→a.1[j]?=some s→∀ lv ∈ staysL x s.pl s.mi (wr (s.mi + x.rest)),hasL a.2 s.pl lv=true
theorem z1065 {A B:List Arv} (h:A <+: B) {j:Nat} (hj:j<A.length):B[j]?=A[j]?:=by
 obtain ⟨C,rfl⟩:=h
 rw [List.getElem?_append_left hj]
theorem z204 {n:Net} {x:Missed} (hx:Hunted n x):∀ (f i:Nat) (a:List Arv × List Cnt),i≤a.1.length→boundN n x + 1≤i + f→goodA n x a.1→Looked n x i a →
  a.1 <+: (followF n x f i a).1∧Looked n x (followF n x f i a).1.length (followF n x f i a)
 | 0,i,a,hi,hf,hg,hL=>by
  have:=z117 hg
  omega
 | f + 1,i,a,hi,hf,hg,hL=>by
  rw [followF]
  split
  ·rename_i s hs
   have hsp:=(hg.1 s (List.mem_of_getElem? hs)).2.1
   have hil:=(List.getElem?_eq_some_iff.1 hs).1
   have hp:=z453 n x s.pl s.mi (staysL x s.pl s.mi (wr (s.mi + x.rest))) a
   obtain ⟨h1,h2,h3⟩:=z339 (p:=s.pl) (m:=s.mi) (staysL x s.pl s.mi (wr (s.mi + x.rest))) a hL.1
   have hlen:=hp.length_le
   obtain ⟨h4,h5⟩:=z204 hx f (i + 1) (spotA n x s a) (by rw [spotA];omega) (by omega) (z463 hx hsp hg) ⟨h1,fun j s' hj hs' lv hlv=>by
    by_cases hji:j<i
    ·rw [spotA,z1065 hp (by omega)] at hs'
     exact h2 _ _ (hL.2 j s' hji hs' lv hlv)
    ·obtain rfl:j=i:=by omega
     rw [spotA,z1065 hp hil,hs] at hs'
     cases hs'
     exact h3 lv hlv⟩
   exact ⟨hp.trans h4,h5⟩
  ·rename_i hs
   have:=List.getElem?_eq_none_iff.1 hs
   obtain rfl:i=a.1.length:=by omega
   exact ⟨List.prefix_refl _,hL⟩
theorem z542 {n:Net} {x:Missed} (hx:Hunted n x) {s:Arv} (hs:s ∈ huntedA n x) {lv to t:Int} (hlv:lv ∈ staysL x s.pl s.mi (wr (s.mi + x.rest))) (h:arrFrom n x s.pl lv to t):memA (huntedA n x) to t:=by
 have hg0:goodA n x (startA x):=z70 ⟨fun a ha=>(by simp at ha),by simp⟩ ⟨hx.place,Int.le_refl _,hx.start.2⟩
 obtain ⟨h1,h2⟩:=z204 hx (boundN n x + 1) 0 (startA x,[]) (Nat.zero_le _) (by omega) hg0 ⟨fun p lv hh=>by simp [hasL] at hh,fun j s hj=>by omega⟩
 obtain ⟨j,hj⟩:=List.getElem?_of_mem hs
 exact h2.1 _ _ (h2.2 j s (List.getElem?_eq_some_iff.1 hj).1 hj lv hlv) to t h
theorem z696 {n:Net} {x:Missed} (hx:Hunted n x) (h:atB x.clues x.place x.start=true):memA (huntedA n x) x.place x.start:=by
 have hg0:goodA n x (startA x):=z70 ⟨fun a ha=>(by simp at ha),by simp⟩ ⟨hx.place,Int.le_refl _,hx.start.2⟩
 obtain ⟨h1,h2⟩:=z204 hx (boundN n x + 1) 0 (startA x,[]) (Nat.zero_le _) (by omega) hg0 ⟨fun p lv hh=>by simp [hasL] at hh,fun j s hj=>by omega⟩
 exact z115 h1 (z360 (a:=⟨x.place,x.start,0,0,-1,0⟩) h)
end Go.Ab
namespace Go.Ab
open Go.RowKit Go.Proofs
set_option maxHeartbeats 4000000
set_option maxRecDepth 20000
attribute [local irreducible] WalkL Walk
theorem z1241 (n lo hi:Int):Fn Tryd.prog 42 [.i n,.i lo,.i hi] (.bool (withinB n lo hi)):=by
 refine z10 15 Tryd.call42 Tryd.func42 rfl (by decide) fun J=>?_
 simp only [go_sem,St.start,Tryd.ntmps42,Tryd.results42]
 by_cases h:lo≤n
 ·repeat (first | refine nx ?_ | (refine z3 fun K hK=>?_;simp only [go_sem,h,ge_iff_le];apply hK;clear hK K))
  simp only [go_sem,withinB,h]
 ·repeat (first | refine nx ?_ | (refine z3 fun K hK=>?_;simp only [go_sem,h,ge_iff_le];apply hK;clear hK K))
  simp only [go_sem,withinB,h]
def farM (n:Net):Bool:=decide ((n.paths.length:Int) > 60) || (n.paths.any (fun x=>decide ((x.opens.length:Int) > 20)) || (!badNet n && (decide (n.places > 5) || decide ((n.paths.length:Int) > 8))))
theorem z1365 (n:Net) (hs:n.Small):Fn Tryd.prog 22 [.agg n.cells] (.bool (farM n)):=by
 have h27:=z1282 n hs
 have hb0:=hs.paths
 refine z10 37 Tryd.call22 Tryd.func22 rfl (by decide) fun J=>?_
 simp only [go_sem,St.start,Tryd.ntmps22,Tryd.results22,Net.cells]
 repeat (first | refine nx ?_ | (refine z3 fun K hK=>?_;simp only [go_sem];apply hK;clear hK K))
 refine z5 rfl (fun hc=>?_) (fun hc=>?_)
 ·repeat (first | refine nx ?_ | (refine z3 fun K hK=>?_;simp only [go_sem];apply hK;clear hK K))
  simp only [go_sem,farM,hc]
 ·repeat (first | refine nx ?_ | (refine z3 fun K hK=>?_;simp only [go_sem];apply hK;clear hK K))
  refine z13 (fun (i:Nat)=>[(3,.d (.i i))]) (fun _=>[]) (fun i=>i≤n.paths.length∧(n.paths.take i).any (fun x=>decide ((x.opens.length:Int) > 20))=false) (fun i=>n.paths.length - i) 0 ?_ ⟨Nat.zero_le _,rfl⟩ ?_
  ·simp only [go_sem]
   refine weA ?_ ?_ <;> simp
  ·intro i ⟨hi,hall⟩
   simp only [go_sem]
   repeat (first | refine nx ?_ | (refine z3 fun K hK=>?_;simp only [go_sem];apply hK;clear hK K))
   refine z5 rfl (fun hb=>?_) (fun hb=>?_)
   ·have hlt:i<n.paths.length:=by simpa using hb
    have hw:IntKind.i64.wrap ((i:Int) + 1)=((i + 1:Nat):Int):=by rw [z11 (by omega)];simp
    obtain ⟨x,hx⟩:∃ x,n.paths[i]?=some x:=⟨_,List.getElem?_eq_getElem hlt⟩
    repeat (first | refine nx ?_ | (refine z3 fun K hK=>?_;simp only [go_sem,hx,List.getElem?_map,Path.row];apply hK;clear hK K))
    refine z5 rfl (fun hd=>?_) (fun hd=>?_)
    ·repeat (first | refine nx ?_ | (refine z3 fun K hK=>?_;simp only [go_sem];apply hK;clear hK K))
     have ha:=z72 (q:=fun x:Path=>decide ((x.opens.length:Int) > 20)) hx hd
     simp only [go_sem,farM,hc,ha]
    ·repeat (first | refine nx ?_ | (refine z3 fun K hK=>?_;simp only [go_sem,hw];apply hK;clear hK K))
     refine ⟨rfl,i + 1,?_,⟨hlt,z34 hx hall hd⟩,by omega⟩
     refine weA ?_ ?_ <;> simp
   ·have he:i=n.paths.length:=by (have:¬ i<n.paths.length:=by simpa using hb);omega
    subst he
    rw [List.take_length] at hall
    have hf:farM n=(!badNet n && (decide (n.places > 5) || decide ((n.paths.length:Int) > 8))):=by unfold farM;rw [hc,hall];rfl
    rw [hf]
    by_cases hbad:badNet n=true
    ·repeat (first | refine nx ?_ | (refine z3 fun K hK=>?_;simp only [go_sem,checkF,hbad];(repeat (first | (refine ⟨_,.lent (hf:=h27) (hd:=rfl) (hr:=rfl),?_⟩;simp only [go_sem,checkF,hbad]) | (refine ⟨_,.given (hf:=h27) (hd:=rfl) (ha:=rfl),?_⟩;simp only [go_sem,checkF,hbad])));apply hK;clear hK K))
     try simp only [go_sem,hbad]
    ·by_cases hp:n.places > 5
     ·repeat (first | refine nx ?_ | (refine z3 fun K hK=>?_;simp only [go_sem,checkF,hbad,hp];(repeat (first | (refine ⟨_,.lent (hf:=h27) (hd:=rfl) (hr:=rfl),?_⟩;simp only [go_sem,checkF,hbad,hp]) | (refine ⟨_,.given (hf:=h27) (hd:=rfl) (ha:=rfl),?_⟩;simp only [go_sem,checkF,hbad,hp])));apply hK;clear hK K))
      simp only [go_sem,hbad,hp]
     ·repeat (first | refine nx ?_ | (refine z3 fun K hK=>?_;simp only [go_sem,checkF,hbad,hp];(repeat (first | (refine ⟨_,.lent (hf:=h27) (hd:=rfl) (hr:=rfl),?_⟩;simp only [go_sem,checkF,hbad,hp]) | (refine ⟨_,.given (hf:=h27) (hd:=rfl) (ha:=rfl),?_⟩;simp only [go_sem,checkF,hbad,hp])));apply hK;clear hK K))
      simp only [go_sem,hbad,hp]
end Go.Ab
namespace Go.Ab
open Go.RowKit Go.Proofs
set_option maxHeartbeats 8000000
set_option maxRecDepth 20000
attribute [local irreducible] WalkL Walk
def badMiss (n:Net) (x:Missed):Bool:=!withinB x.place 0 (n.places - 1) || (!withinB x.start 0 x.now || (decide (x.now > 2880) || !withinB x.rest 0 600))
theorem z476 (n:Net) (x:Missed):badMiss n x=badHunt n x:=by
 rw [Bool.eq_iff_iff]
 simp only [badMiss,badHunt,withinB,Bool.or_eq_true,Bool.not_eq_true',Bool.and_eq_false_iff,decide_eq_false_iff_not,decide_eq_true_eq]
 omega
theorem z1286 (n:Net) (x:Missed) (hs:n.Small) (hl:x.clues.length<2 ^ 30):Fn Tryd.prog 41 [.agg n.cells,.agg x.row] (.i (openX n x)):=by
 have h14:=z1364 n x.party hs
 rw [Party.cells] at h14
 refine z10 76 Tryd.call41 Tryd.func41 rfl (by decide) fun J=>?_
 simp only [go_sem,St.start,Tryd.ntmps41,Tryd.results41,Net.cells,Missed.row]
 by_cases hok:checkPartyF n x.party=0
 ·have hnb:¬ badNet n=true:=by
   intro hb
   rw [checkPartyF,if_pos hb] at hok
   simp at hok
  have hpl:=z155 hnb
  have h7:=z1274 n x.place (by omega)
  rw [hok] at h14
  repeat (first | refine nx ?_ | (refine z3 fun K hK=>?_;simp only [go_sem];(repeat (first | (refine ⟨_,.lent (hf:=h14) (hd:=rfl) (hr:=rfl),?_⟩;simp only [go_sem]) | (refine ⟨_,.given (hf:=h14) (hd:=rfl) (ha:=rfl),?_⟩;simp only [go_sem])));apply hK;clear hK K))
  refine z6 rfl ?_
  repeat (first | refine nx ?_ | (refine z3 fun K hK=>?_;simp only [go_sem];apply hK;clear hK K))
  refine z17 [(37,.d (.bool (badMiss n x)))] [] ?_ ?_
  ·refine z3 fun K hK=>?_
   simp only [go_sem]
   refine ⟨_,.lent (hf:=h7) (hd:=rfl) (hr:=rfl),?_⟩
   simp only [go_sem]
   by_cases ho0:(!withinB x.place 0 (n.places - 1))=true
   ·simp only [go_sem,ho0]
    apply hK
    clear hK K
    refine z7 ?_
    refine z4 ?_
    refine ⟨rfl,?_⟩
    rw [show (badMiss n x)=(true) from by simp [badMiss,ho0]]
    simp only [go_sem]
    refine weA ?_ ?_ <;> simp
   ·simp only [go_sem,ho0]
    refine ⟨_,.lent (hf:=z1241 x.start 0 x.now) (hd:=rfl) (hr:=rfl),?_⟩
    simp only [go_sem,ho0]
    by_cases ho1:(!withinB x.start 0 x.now)=true
    ·simp only [go_sem,ho0,ho1]
     apply hK
     clear hK K
     refine z7 ?_
     refine z4 ?_
     refine ⟨rfl,?_⟩
     rw [show (badMiss n x)=(true) from by simp [badMiss,ho0,ho1]]
     simp only [go_sem]
     refine weA ?_ ?_ <;> simp
    ·simp only [go_sem,ho0,ho1]
     by_cases ho2:(decide (x.now > 2880))=true
     ·simp only [go_sem,ho0,ho1,ho2]
      apply hK
      clear hK K
      refine z7 ?_
      refine z4 ?_
      refine ⟨rfl,?_⟩
      rw [show (badMiss n x)=(true) from by simp [badMiss,ho0,ho1,ho2]]
      simp only [go_sem]
      refine weA ?_ ?_ <;> simp
     ·simp only [go_sem,ho0,ho1,ho2]
      refine ⟨_,.lent (hf:=z1241 x.rest 0 600) (hd:=rfl) (hr:=rfl),?_⟩
      simp only [go_sem,ho0,ho1,ho2]
      apply hK
      clear hK K
      refine z7 ?_
      refine z4 ?_
      refine ⟨rfl,?_⟩
      rw [show (badMiss n x)=(!withinB x.rest 0 600) from by simp [badMiss,ho0,ho1,ho2]]
      simp only [go_sem]
      refine weA ?_ ?_ <;> simp
  simp only [go_sem]
  by_cases hb:badMiss n x=true
  ·have e:openX n x=80:=by simp [openX,hok,← z476,hb]
   rw [e]
   refine z5 (b:=true) (by rw [← hb];rfl) (fun _=>?_) (fun hc=>by cases hc)
   repeat (first | refine nx ?_ | (refine z3 fun K hK=>?_;simp only [go_sem];apply hK;clear hK K))
   simp only [go_sem]
  ·have hb:badMiss n x=false:=by simpa using hb
   have e:openX n x=if decide ((x.clues.length:Int) > 12) || x.clues.any (wrongC n x) then 81 else 0:=by simp [openX,hok,← z476,hb]
   refine z5 (b:=false) (by rw [← hb];rfl) (fun hc=>by cases hc) (fun _=>?_)
   repeat (first | refine nx ?_ | (refine z3 fun K hK=>?_;simp only [go_sem];apply hK;clear hK K))
   refine z5 rfl (fun hc=>?_) (fun hc=>?_)
   ·repeat (first | refine nx ?_ | (refine z3 fun K hK=>?_;simp only [go_sem];apply hK;clear hK K))
    rw [e,hc]
    simp only [go_sem,Bool.true_or,if_true]
   ·rw [hc,Bool.false_or] at e
    repeat (first | refine nx ?_ | (refine z3 fun K hK=>?_;simp only [go_sem];apply hK;clear hK K))
    refine z13 (fun (i:Nat)=>[(6,.d (.i i))]) (fun _=>[]) (fun i=>i≤x.clues.length∧(x.clues.take i).any (wrongC n x)=false) (fun i=>x.clues.length - i) 0 ?_ ⟨Nat.zero_le _,rfl⟩ ?_
    ·simp only [go_sem]
     refine weA ?_ ?_ <;> simp
    ·intro i ⟨hi,hall⟩
     simp only [go_sem]
     repeat (first | refine nx ?_ | (refine z3 fun K hK=>?_;simp only [go_sem];apply hK;clear hK K))
     refine z5 rfl (fun hb2=>?_) (fun hb2=>?_)
     ·have hlt:i<x.clues.length:=by simpa using hb2
      have hw:IntKind.i64.wrap ((i:Int) + 1)=((i + 1:Nat):Int):=by rw [z11 (by omega)];simp
      obtain ⟨c,hcl⟩:∃ c,x.clues[i]?=some c:=⟨_,List.getElem?_eq_getElem hlt⟩
      have n1:¬ n.places<0:=by omega
      have hu:IntKind.u64.wrap n.places=n.places:=by
       have:n.places=1∨n.places=2∨n.places=3∨n.places=4∨n.places=5∨n.places=6∨n.places=7∨n.places=8∨n.places=9∨n.places=10∨n.places=11∨n.places=12:=by omega
       rcases this with h | h | h | h | h | h | h | h | h | h | h | h <;> rw [h] <;> rfl
      have e1:fullS n=IntKind.i64.wrap (bShl .i64 1 n.places - 1):=rfl
      have hgc:(x.clues.map Clue.row)[i]?=some c.row:=by rw [List.getElem?_map,hcl];rfl
      rw [Clue.row] at hgc
      repeat (first | refine nx ?_ | (refine z3 fun K hK=>?_;simp only [go_sem];apply hK;clear hK K))
      refine z17 [(75,.d (.bool (wrongC n x c)))] [] ?_ ?_
      ·refine z8 (by kernel_rfl) (by kernel_rfl) fun K hK=>?_
       simp only [go_sem,n1,hgc,hu,← e1]
       refine ⟨_,.fn (hf:=z1241 c.minute x.start x.now) (hd:=rfl) (hr:=.inl rfl),?_⟩
       simp only [go_sem,n1,hgc,hu,← e1]
       by_cases ho0:(!withinB c.minute x.start x.now)=true
       ·simp only [go_sem,n1,hgc,hu,← e1,ho0]
        refine ⟨by kernel_rfl,hK _ ?_⟩
        clear hK K
        refine z7 ?_
        refine z4 ?_
        refine ⟨rfl,?_⟩
        rw [show (wrongC n x c)=(true) from by simp [wrongC,ho0]]
        simp only [go_sem]
        refine weA ?_ ?_ <;> simp
       ·simp only [go_sem,n1,hgc,hu,← e1,ho0]
        refine ⟨_,.fn (hf:=z1241 c.places 1 (fullS n)) (hd:=rfl) (hr:=.inl rfl),?_⟩
        simp only [go_sem,n1,hgc,hu,← e1,ho0]
        refine ⟨by kernel_rfl,hK _ ?_⟩
        clear hK K
        refine z7 ?_
        refine z4 ?_
        refine ⟨rfl,?_⟩
        rw [show (wrongC n x c)=(!withinB c.places 1 (fullS n)) from by simp [wrongC,ho0]]
        simp only [go_sem]
        refine weA ?_ ?_ <;> simp
      simp only [go_sem]
      by_cases hd:wrongC n x c=true
      ·refine z5 (b:=true) (by rw [← hd];rfl) (fun _=>?_) (fun hc=>by cases hc)
       have ha:=z72 (q:=wrongC n x) hcl hd
       repeat (first | refine nx ?_ | (refine z3 fun K hK=>?_;simp only [go_sem];apply hK;clear hK K))
       rw [e,ha]
       simp only [go_sem,if_true]
      ·have hd:wrongC n x c=false:=by simpa using hd
       refine z5 (b:=false) (by rw [← hd];rfl) (fun hc=>by cases hc) (fun _=>?_)
       repeat (first | refine nx ?_ | (refine z3 fun K hK=>?_;simp only [go_sem,hw];apply hK;clear hK K))
       refine ⟨rfl,i + 1,?_,⟨hlt,z34 hcl hall hd⟩,by omega⟩
       refine weA ?_ ?_ <;> simp
     ·have he:i=x.clues.length:=by (have:¬ i<x.clues.length:=by simpa using hb2);omega
      subst he
      rw [List.take_length] at hall
      repeat (first | refine nx ?_ | (refine z3 fun K hK=>?_;simp only [go_sem];apply hK;clear hK K))
      rw [e,hall]
      simp only [go_sem,Bool.false_eq_true,if_false]
 ·have hne2:(checkPartyF n x.party != 0)=true:=by simpa using hok
  have e:openX n x=checkPartyF n x.party:=by simp [openX,hok]
  rw [e]
  repeat (first | refine nx ?_ | (refine z3 fun K hK=>?_;simp only [go_sem,hne2];(repeat (first | (refine ⟨_,.lent (hf:=h14) (hd:=rfl) (hr:=rfl),?_⟩;simp only [go_sem,hne2]) | (refine ⟨_,.given (hf:=h14) (hd:=rfl) (ha:=rfl),?_⟩;simp only [go_sem,hne2])));apply hK;clear hK K))
  refine z9 rfl ?_
  repeat (first | refine nx ?_ | (refine z3 fun K hK=>?_;simp only [go_sem];apply hK;clear hK K))
  simp only [go_sem]
end Go.Ab
namespace Go.Ab
open Go.RowKit Go.Proofs
set_option maxHeartbeats 8000000
set_option maxRecDepth 20000
attribute [local irreducible] WalkL Walk
def farX (n:Net) (x:Missed):Bool:=farM n || (decide ((x.clues.length:Int) > 30) || (openX n x == 0 && (decide (wr (x.now - x.start) > 60) || (decide (x.rest > 10) || decide ((x.clues.length:Int) > 6)))))
theorem z1360 (n:Net) (x:Missed) (hs:n.Small) (hl:x.clues.length<2 ^ 30):Fn Tryd.prog 40 [.agg n.cells,.agg x.row] (.bool (farX n x)):=by
 have h19:=z1365 n hs
 have h6:=z1286 n x hs hl
 obtain ⟨e,he⟩:∃ e,e=openX n x:=⟨_,rfl⟩
 rw [farX,← he]
 rw [← he] at h6
 rw [Net.cells] at h19 h6
 rw [Missed.row] at h6
 refine z10 36 Tryd.call40 Tryd.func40 rfl (by decide) fun J=>?_
 simp only [go_sem,St.start,Tryd.ntmps40,Tryd.results40,Net.cells,Missed.row]
 cases hf:farM n
 ·rw [hf] at h19
  by_cases h30:decide ((x.clues.length:Int) > 30)=true
  ·repeat (first | refine nx ?_ | (refine z3 fun K hK=>?_;simp only [go_sem,h30];(repeat (first | (refine ⟨_,.lent (hf:=h19) (hd:=rfl) (hr:=rfl),?_⟩;simp only [go_sem,h30]) | (refine ⟨_,.given (hf:=h19) (hd:=rfl) (ha:=rfl),?_⟩;simp only [go_sem,h30])));apply hK;clear hK K))
   refine z9 rfl ?_
   repeat (first | refine nx ?_ | (refine z3 fun K hK=>?_;simp only [go_sem];apply hK;clear hK K))
   simp only [go_sem,h30,Bool.false_or,Bool.true_or]
  ·have h30:decide ((x.clues.length:Int) > 30)=false:=by simpa using h30
   repeat (first | refine nx ?_ | (refine z3 fun K hK=>?_;simp only [go_sem,h30];(repeat (first | (refine ⟨_,.lent (hf:=h19) (hd:=rfl) (hr:=rfl),?_⟩;simp only [go_sem,h30]) | (refine ⟨_,.given (hf:=h19) (hd:=rfl) (ha:=rfl),?_⟩;simp only [go_sem,h30])));apply hK;clear hK K))
   refine z6 rfl ?_
   rw [h30,Bool.false_or,Bool.false_or]
   by_cases h0:(e == 0)=true
   ·have hw:IntKind.i64.wrap (x.now - x.start)=wr (x.now - x.start):=rfl
    cases h1:decide (wr (x.now - x.start) > 60) <;> cases h2:decide (x.rest > 10) <;>
    ·repeat (first | refine nx ?_ | (refine z3 fun K hK=>?_;simp only [go_sem,hw,h0,h1,h2];(repeat (first | (refine ⟨_,.lent (hf:=h6) (hd:=rfl) (hr:=rfl),?_⟩;simp only [go_sem,hw,h0,h1,h2]) | (refine ⟨_,.given (hf:=h6) (hd:=rfl) (ha:=rfl),?_⟩;simp only [go_sem,hw,h0,h1,h2])));apply hK;clear hK K))
     simp only [go_sem,h0,h1,h2,Bool.true_and,Bool.false_or,Bool.true_or]
   ·have h0:(e == 0)=false:=by simpa using h0
    repeat (first | refine nx ?_ | (refine z3 fun K hK=>?_;simp only [go_sem,h0];(repeat (first | (refine ⟨_,.lent (hf:=h6) (hd:=rfl) (hr:=rfl),?_⟩;simp only [go_sem,h0]) | (refine ⟨_,.given (hf:=h6) (hd:=rfl) (ha:=rfl),?_⟩;simp only [go_sem,h0])));apply hK;clear hK K))
    simp only [go_sem,h0,Bool.false_and]
 ·rw [hf] at h19
  repeat (first | refine nx ?_ | (refine z3 fun K hK=>?_;simp only [go_sem];(repeat (first | (refine ⟨_,.lent (hf:=h19) (hd:=rfl) (hr:=rfl),?_⟩;simp only [go_sem]) | (refine ⟨_,.given (hf:=h19) (hd:=rfl) (ha:=rfl),?_⟩;simp only [go_sem])));apply hK;clear hK K))
  refine z9 rfl ?_
  repeat (first | refine nx ?_ | (refine z3 fun K hK=>?_;simp only [go_sem];apply hK;clear hK K))
  simp only [go_sem,Bool.true_or]
structure Hike where
 m:Missed
 to:Int
 times:List Int
def Hike.row (x:Hike):List DV:=x.m.row++[.i x.to,.sl (intRows x.times)]
def inH (x:Hike) (i:Nat) (s:Span):Bool:=match x.times[i]? with
 | some v=>decide (v ≥ s.lo) && decide (v≤s.hi)
 | none=>false
def timeH (x:Hike) (i:Nat) (s:Span):Int:=if inH x i s then getI x.times i else s.hi
def hikeR (n:Net) (x:Hike):Nat→List Int→Int→Int→Int × Int × Bool
 | _,[],a,_=>(a,-1,true)
 | i,r::rs,a,t=>match n.paths[r.toNat]? with
  | none=>(0,0,false)
  | some y =>
   if enterF y.opens t ≥ x.m.now then (a,-1,true)
   else if enterF y.opens t > wr (t + x.m.rest) then (0,0,false)
   else if wr (enterF y.opens t + timeH x i (spanW y x.m.party)) > x.m.now then (-1,r,true)
   else hikeR n x (i + 1) rs y.to (wr (enterF y.opens t + timeH x i (spanW y x.m.party)))
def hikedF (n:Net) (x:Hike) (route:List Int):Int × Int × Bool:=hikeR n x 0 route x.m.place x.m.start
end Go.Ab
namespace Go.Ab
open Go.RowKit Go.Proofs
set_option maxHeartbeats 2000000
theorem z1105 {n:Net} {x:Missed} {A:List Arv} {s:Arv} (hs:s ∈ A) (h:x.now ∈ staysL x s.pl s.mi x.now):⟨s.pl,s.mi,-1,x.now⟩ ∈ endsL n x A:=by
 refine List.mem_flatMap.2 ⟨s,hs,?_⟩
 rw [endOf8]
 exact List.mem_append.2 (.inl (List.mem_filterMap.2 ⟨x.now,h,by rw [endIn,if_pos rfl]⟩))
theorem z1103 {n:Net} {x:Missed} {A:List Arv} {s:Arv} (hs:s ∈ A) {lv:Int} {k:Nat} {y:Path} (h:lv ∈ staysL x s.pl s.mi (wr (s.mi + x.rest))) (h1:lv≠x.now) (h2:seenF x.clues≤lv)
  (hy:n.paths[k]?=some y) (hg:y.grade≤x.party.grade) (hf:y.frm=s.pl):⟨s.pl,s.mi,k,lv⟩ ∈ endsL n x A:=by
 refine List.mem_flatMap.2 ⟨s,hs,?_⟩
 rw [endOf8]
 refine List.mem_append.2 (.inr (List.mem_flatMap.2 ⟨lv,h,?_⟩))
 rw [endLv,if_neg (by omega)]
 refine List.mem_filterMap.2 ⟨k,List.mem_range.2 (List.getElem?_eq_some_iff.1 hy).1,?_⟩
 rw [endOn,hy]
 dsimp only
 rw [if_pos ⟨hg,hf⟩]
end Go.Ab
namespace Go.Ab
open Go.RowKit Go.Proofs
set_option maxHeartbeats 2000000
theorem z736 {l:List Int} {i K:Int} (h:∀ j:Nat,0≤l.getD j 0∧l.getD j 0≤K) (hK:K<2 ^ 62) :
  (∀ j:Nat,0≤(bump1 l i).getD j 0∧(bump1 l i).getD j 0≤K + 1)∧(∀ j:Nat,l.getD j 0≤(bump1 l i).getD j 0)∧(i.toNat<l.length→0<(bump1 l i).getD i.toNat 0):=by
 have hi:=h i.toNat
 have hw:wr (getI l i + 1)=l.getD i.toNat 0 + 1:=by rw [getI];exact z11 (by omega)
 have e:∀ j:Nat,(bump1 l i).getD j 0=if j=i.toNat∧j<l.length then l.getD i.toNat 0 + 1 else l.getD j 0:=fun j=>by
  rw [bump1,hw,List.getD_eq_getElem?_getD,List.getElem?_set]
  by_cases hj:i.toNat=j
  ·subst hj
   by_cases hl:i.toNat<l.length
   ·simp [hl]
   ·simp [hl]
  ·rw [if_neg hj,if_neg (fun hc=>hj hc.1.symm),List.getD_eq_getElem?_getD]
 refine ⟨fun j=>?_,fun j=>?_,fun hl=>?_⟩
 ·rw [e];split
  ·omega
  ·have:=h j;omega
 ·rw [e];split
  ·rename_i hc;rw [hc.1];omega
  ·exact Int.le_refl _
 ·rw [e,if_pos ⟨rfl,hl⟩];omega
def Small01 (K:Int) (a:List Int × List Int):Prop:=(∀ j:Nat,0≤a.1.getD j 0∧a.1.getD j 0≤K)∧∀ j:Nat,0≤a.2.getD j 0∧a.2.getD j 0≤K
theorem z927 {a:List Int × List Int} {K:Int} (e:EndT) (h:Small01 K a) (hK:K<2 ^ 62):Small01 (K + 1) (tally a e)∧(∀ j:Nat,a.1.getD j 0≤(tally a e).1.getD j 0∧a.2.getD j 0≤(tally a e).2.getD j 0) ∧
  (e.pa<0→e.pl.toNat<a.1.length→0<(tally a e).1.getD e.pl.toNat 0)∧(¬ e.pa<0→e.pa.toNat<a.2.length→0<(tally a e).2.getD e.pa.toNat 0):=by
 rw [tally]
 split
 ·rename_i hp
  obtain ⟨h1,h2,h3⟩:=z736 (i:=e.pl) h.1 hK
  exact ⟨⟨h1,fun j=>by have:=h.2 j;dsimp only;omega⟩,fun j=>⟨h2 j,Int.le_refl _⟩,fun _=>h3,fun hn=>absurd hp hn⟩
 ·rename_i hp
  obtain ⟨h1,h2,h3⟩:=z736 (i:=e.pa) h.2 hK
  exact ⟨⟨fun j=>by have:=h.1 j;dsimp only;omega,h1⟩,fun j=>⟨Int.le_refl _,h2 j⟩,fun hn=>absurd hn hp,fun _=>h3⟩
theorem z435:∀ (E:List EndT) (a:List Int × List Int) (K:Int),Small01 K a→K + E.length<2 ^ 62 →
  (∀ j:Nat,a.1.getD j 0≤(E.foldl tally a).1.getD j 0∧a.2.getD j 0≤(E.foldl tally a).2.getD j 0) ∧
  ∀ e ∈ E,(e.pa<0→e.pl.toNat<a.1.length→0<(E.foldl tally a).1.getD e.pl.toNat 0)∧(¬ e.pa<0→e.pa.toNat<a.2.length→0<(E.foldl tally a).2.getD e.pa.toNat 0)
 | [],a,K,h,hK=>⟨fun j=>⟨Int.le_refl _,Int.le_refl _⟩,fun e he=>by simp at he⟩
 | d::E,a,K,h,hK=>by
  rw [List.length_cons] at hK
  obtain ⟨s1,s2,s3,s4⟩:=z927 d h (by omega)
  obtain ⟨t1,t2⟩:=z435 E (tally a d) (K + 1) s1 (by omega)
  have hl:=z310 a d
  refine ⟨fun j=>⟨Int.le_trans (s2 j).1 (t1 j).1,Int.le_trans (s2 j).2 (t1 j).2⟩,fun e he=>?_⟩
  rcases List.mem_cons.1 he with rfl | he
  ·exact ⟨fun g1 g2=>Int.lt_of_lt_of_le (s3 g1 g2) (t1 _).1,fun g1 g2=>Int.lt_of_lt_of_le (s4 g1 g2) (t1 _).2⟩
  ·obtain ⟨u1,u2⟩:=t2 e he
   exact ⟨fun g1 g2=>u1 g1 (by omega),fun g1 g2=>u2 g1 (by omega)⟩
theorem z206 {α β:Type} {f:α→List β} {K:Nat}:∀ (l:List α),(∀ a ∈ l,(f a).length≤K)→(l.flatMap f).length≤l.length * K
 | [],_=>by simp
 | a::l,h=>by
  have h1:=h a (by simp)
  have h2:=z206 l fun b hb=>h b (by simp [hb])
  rw [List.flatMap_cons,List.length_append,List.length_cons,Nat.succ_mul]
  omega
theorem z323 (cl:List Clue) (p top:Int):∀ (f:Nat) (m:Int),(staysF cl p top f m).length≤f
 | 0,_=>Nat.le_refl _
 | f + 1,m=>by
  rw [staysF];split
  ·have:=z323 cl p top f (m + 1)
   simp only [List.length_cons];omega
  ·simp
theorem z1189 {n:Net} {x:Missed} (hx:Hunted n x):(endsL n x (huntedA n x)).length<2 ^ 40:=by
 have hg:=z50 hx
 have hl:=z117 hg
 have hN:=z182 hx
 have hst:=hx.start
 have hno:=hx.now
 have hp:=hx.net.paths
 have h1:∀ s ∈ huntedA n x,(endOf8 n x s).length≤100000:=fun s hs=>by
  have hs0:=(hg.1 s hs).2.1
  have hsl:∀ most,(staysL x s.pl s.mi most).length≤2881:=fun most=>by
   have:=z323 x.clues s.pl (min most x.now) (min most x.now - s.mi + 1).toNat s.mi
   rw [staysL];omega
  have a1:((staysL x s.pl s.mi x.now).filterMap (endIn x s)).length≤2881:=Nat.le_trans (List.length_filterMap_le _ _) (hsl _)
  have a2:((staysL x s.pl s.mi (wr (s.mi + x.rest))).flatMap (endLv n x s)).length≤(staysL x s.pl s.mi (wr (s.mi + x.rest))).length * 24:=z206 _ fun lv _=>by
   rw [endLv];split
   ·simp
   ·refine Nat.le_trans (List.length_filterMap_le _ _) ?_
    rw [List.length_range];exact hp
  have a3:=hsl (wr (s.mi + x.rest))
  rw [endOf8,List.length_append]
  have:=Nat.mul_le_mul_right 24 a3
  omega
 have h2:=z206 (huntedA n x) h1
 have h3:=Nat.mul_le_mul_right 100000 (Nat.le_trans hl hN)
 rw [endsL]
 omega
theorem z296 (m j:Nat):(List.replicate m (0:Int)).getD j 0=0:=by
 rw [List.getD_eq_getElem?_getD,List.getElem?_replicate];split <;> rfl
theorem z264 {n:Net} {x:Missed} (hx:Hunted n x) {e:EndT} (he:e ∈ endsL n x (huntedA n x)) :
  (e.pa<0→(whereP n x).any (fun y=>y == e.pl)=true)∧(¬ e.pa<0→(whereW n x).any (fun y=>y == e.pa)=true):=by
 obtain ⟨⟨r1,r2⟩,r3⟩:=z265 (z50 hx) he
 have hl:=z1189 hx
 obtain ⟨_,h⟩:=z435 (endsL n x (huntedA n x)) (List.replicate n.places.toNat 0,List.replicate n.paths.length 0) 0 ⟨fun j=>by simp only [z296];omega,fun j=>by simp only [z296];omega⟩ (by omega)
 obtain ⟨h1,h2⟩:=h e he
 simp only [List.length_replicate] at h1 h2
 have ht:=z133 (endsL n x (huntedA n x)) (List.replicate n.places.toNat 0,List.replicate n.paths.length 0)
 simp only [List.length_replicate] at ht
 rw [← tallyE] at ht h1 h2
 have key:∀ (l:List Int) (i:Int),0≤i→i.toNat<l.length→0<l.getD i.toNat 0→(posL l).any (fun y=>y == i)=true:=fun l i g1 g2 g3=>by
  have:=z1134 (fun j=>decide (getI l j > 0)) l.length i.toNat g2
  rw [Int.toNat_of_nonneg g1] at this
  rw [posL,this]
  refine decide_eq_true ?_
  rw [getI]
  exact g3
 refine ⟨fun hp=>key _ _ r1 (by omega) (h1 hp (by omega)),fun hp=>?_⟩
 rcases r3 with r3 | ⟨r3,r4⟩
 ·exact absurd r3 hp
 ·exact key _ _ r3 (by omega) (h2 hp r4)
end Go.Ab
namespace Go.Ab
open Go.RowKit Go.Proofs
set_option maxHeartbeats 2000000
def LegOk (n:Net) (x:Missed) (A:List Arv) (a:Arv):Prop :=
 (a.pa=-1∧a.pl=x.place∧a.mi=x.start∧atB x.clues x.place x.start=true) ∨
 ∃ (k:Nat) (y:Path) (b:Bool),a.pa=k∧n.paths[k]?=some y∧y.frm=a.fp∧y.grade≤x.party.grade∧y.to=a.pl∧memA A a.fp a.fm∧a.lv ∈ staysL x a.fp a.fm (wr (a.fm + x.rest)) ∧
  wr (a.lv + (spanW y x.party).lo)≤a.mi∧a.mi≤wr (a.lv + (spanW y x.party).hi)∧(a.mi,b) ∈ walksL x a.lv∧atB x.clues a.pl a.mi=true
def LegsOk (n:Net) (x:Missed) (A:List Arv):Prop:=∀ (j:Nat) a,A[j]?=some a→LegOk n x (A.take j) a
theorem LegOk.mono {n:Net} {x:Missed} {A B:List Arv} {a:Arv} (hs:∀ p m,memA A p m→memA B p m) (h:LegOk n x A a):LegOk n x B a:=by
 rcases h with h | ⟨k,y,b,h1,h2,h3,h4,h5,h6,h7⟩
 ·exact .inl h
 ·exact .inr ⟨k,y,b,h1,h2,h3,h4,h5,hs _ _ h6,h7⟩
theorem z1084 {n:Net} {x:Missed} {A:List Arv} {a:Arv} (hA:LegsOk n x A) (ha:LegOk n x A a):LegsOk n x (A++[a]):=by
 intro j b hb
 by_cases hj:j<A.length
 ·rw [List.getElem?_append_left hj] at hb
  rw [List.take_append_of_le_length (by omega)]
  exact hA j b hb
 ·have hl:=(List.getElem?_eq_some_iff.1 hb).1
  rw [List.length_append,List.length_singleton] at hl
  obtain rfl:j=A.length:=by omega
  rw [List.getElem?_append_right (Nat.le_refl _),Nat.sub_self] at hb
  simp at hb
  subst hb
  rw [List.take_append_of_le_length (Nat.le_refl _),List.take_length]
  exact ha
theorem z338 {n:Net} {x:Missed} {A:List Arv} {a:Arv} (hA:LegsOk n x A) (ha:atB x.clues a.pl a.mi=true→LegOk n x A a):LegsOk n x (arriveA x.clues A a):=by
 rw [arriveA]
 split
 ·exact hA
 ·rename_i hc
  refine z1084 hA (ha ?_)
  cases h:atB x.clues a.pl a.mi
  ·rw [h] at hc;simp at hc
  ·rfl
theorem z335 {n:Net} {x:Missed} {p m lv:Int} {k:Nat} {y:Path} (hy:n.paths[k]?=some y) (hf:y.frm=p) (hg:y.grade≤x.party.grade) (hlv:lv ∈ staysL x p m (wr (m + x.rest))) :
  ∀ (ws:List (Int × Bool)) (A:List Arv),(∀ w ∈ ws,w ∈ walksL x lv)→memA A p m→LegsOk n x A →
   LegsOk n x (walkA x.clues (wr (lv + (spanW y x.party).lo)) (wr (lv + (spanW y x.party).hi)) (fun t=>⟨y.to,t,p,m,k,lv⟩) ws A)
 | [],A,_,_,hA=>hA
 | w::ws,A,hw,hm,hA=>by
  rw [walkA]
  split
  ·exact hA
  ·rename_i hhi
   split
   ·rename_i hlo
    refine z335 hy hf hg hlv ws _ (fun v hv=>hw v (by simp [hv])) (z115 (z359 _ _ _) hm) ?_
    refine z338 hA fun hat=>.inr ⟨k,y,w.2,rfl,hy,hf,hg,rfl,hm,hlv,hlo,(by show w.1≤wr (lv + (spanW y x.party).hi);omega),hw w (by simp),hat⟩
   ·exact z335 hy hf hg hlv ws _ (fun v hv=>hw v (by simp [hv])) hm hA
theorem z1085 {n:Net} {x:Missed} {p m lv:Int} {A:List Arv} {k:Nat} (hlv:lv ∈ staysL x p m (wr (m + x.rest))) (hm:memA A p m) (hA:LegsOk n x A):LegsOk n x (pathA n x p m lv A k):=by
 rw [pathA]
 split
 ·rename_i y hy
  split
  ·rename_i hc
   exact z335 hy hc.1 hc.2 hlv _ _ (fun _ h=>h) hm hA
  ·exact hA
 ·exact hA
theorem z451 {n:Net} {x:Missed} {p m lv:Int} (hlv:lv ∈ staysL x p m (wr (m + x.rest))):∀ (l:List Nat) (A:List Arv),memA A p m→LegsOk n x A→LegsOk n x (l.foldl (pathA n x p m lv) A)
 | [],_,_,hA=>hA
 | k::l,A,hm,hA=>z451 hlv l _ (z115 (z328 _ _ _ _ _ _ _) hm) (z1085 hlv hm hA)
theorem z996 {n:Net} {x:Missed} {p m lv:Int} {a:List Arv × List Cnt} (hlv:lv ∈ staysL x p m (wr (m + x.rest))) (hm:memA a.1 p m) (hA:LegsOk n x a.1):LegsOk n x (leaveA n x p m a lv).1:=by
 rw [leaveA]
 split
 ·exact hA
 ·exact z451 hlv _ _ hm hA
theorem z336 {n:Net} {x:Missed} {p m:Int}:∀ (l:List Int) (a:List Arv × List Cnt),(∀ v ∈ l,v ∈ staysL x p m (wr (m + x.rest)))→memA a.1 p m→LegsOk n x a.1→LegsOk n x (l.foldl (leaveA n x p m) a).1
 | [],_,_,_,hA=>hA
 | v::l,a,hl,hm,hA=>z336 l _ (fun u hu=>hl u (by simp [hu])) (z115 (z250 _ _ _ _ _ _) hm) (z996 (hl v (by simp)) hm hA)
theorem z337 {n:Net} {x:Missed}:∀ (f i:Nat) (a:List Arv × List Cnt),LegsOk n x a.1→LegsOk n x (followF n x f i a).1
 | 0,_,_,hA=>hA
 | f + 1,i,a,hA=>by
  rw [followF]
  split
  ·rename_i s hs
   exact z337 f (i + 1) _ (z336 _ _ (fun _ h=>h) ⟨s,List.mem_of_getElem? hs,rfl,rfl⟩ hA)
  ·exact hA
theorem z202 (n:Net) (x:Missed):LegsOk n x (huntedA n x):=by
 refine z337 _ _ _ ?_
 rw [startA]
 refine z338 (fun j a h=>by simp at h) fun hat=>.inl ⟨rfl,rfl,rfl,hat⟩
inductive Reached (n:Net) (x:Missed):Int→Int→Prop where
 | start:atB x.clues x.place x.start=true→Reached n x x.place x.start
 | step {p m lv to t:Int}:Reached n x p m→lv ∈ staysL x p m (wr (m + x.rest))→arrFrom n x p lv to t→Reached n x to t
theorem z690 {n:Net} {x:Missed} {A:List Arv} (h:LegsOk n x A):∀ (j:Nat) (a:Arv),A[j]?=some a→Reached n x a.pl a.mi:=by
 intro j
 induction j using Nat.strongRecOn with
 | ind j ih =>
  intro a ha
  rcases h j a ha with ⟨_,h2,h3,h4⟩ | ⟨k,y,b,h1,h2,h3,h4,h5,⟨s,hs,e1,e2⟩,h7,h8,h9,h10,h11⟩
  ·rw [h2,h3];exact .start h4
  ·obtain ⟨i,hi⟩:=List.getElem?_of_mem hs
   rw [List.getElem?_take] at hi
   split at hi
   ·rename_i hij
    have:=ih i hij s hi
    rw [e1,e2] at this
    exact .step this h7 ⟨k,y,b,h2,h3,h4,h5,h8,h9,h10,h11⟩
   ·cases hi
theorem z110 {n:Net} {x:Missed} (hx:Hunted n x) {p m:Int}:memA (huntedA n x) p m↔Reached n x p m:=by
 constructor
 ·rintro ⟨s,hs,rfl,rfl⟩
  obtain ⟨j,hj⟩:=List.getElem?_of_mem hs
  exact z690 (z202 n x) j s hj
 ·intro h
  induction h with
  | start h=>exact z696 hx h
  | step _ hlv harr ih =>
   obtain ⟨s,hs,rfl,rfl⟩:=ih
   exact z542 hx hs hlv harr
def CanIn (n:Net) (x:Missed) (p:Int):Prop:=∃ m,Reached n x p m∧x.now ∈ staysL x p m x.now
def CanOn (n:Net) (x:Missed) (k:Int):Prop:=∃ (j:Nat) (y:Path) (m lv:Int),k=j∧n.paths[j]?=some y∧y.grade≤x.party.grade∧Reached n x y.frm m∧lv ∈ staysL x y.frm m (wr (m + x.rest))∧lv≠x.now∧seenF x.clues≤lv
theorem z266 {n:Net} {x:Missed} {A:List Arv} {e:EndT} (h:e ∈ endsL n x A):(e.pa<0∧memA A e.pl e.mi∧x.now ∈ staysL x e.pl e.mi x.now) ∨
  ∃ (k:Nat) (y:Path),e.pa=k∧n.paths[k]?=some y∧y.grade≤x.party.grade∧y.frm=e.pl∧memA A e.pl e.mi∧e.lv ∈ staysL x e.pl e.mi (wr (e.mi + x.rest))∧e.lv≠x.now∧seenF x.clues≤e.lv:=by
 obtain ⟨s,hs,he⟩:=List.mem_flatMap.1 h
 rw [endOf8] at he
 rcases List.mem_append.1 he with he | he
 ·obtain ⟨w,hw,he⟩:=List.mem_filterMap.1 he
  rw [endIn] at he
  split at he
  ·rename_i hn
   cases he
   subst hn
   exact .inl ⟨by show (-1:Int)<0;decide,⟨s,hs,rfl,rfl⟩,hw⟩
  ·cases he
 ·obtain ⟨lv,hlv,he⟩:=List.mem_flatMap.1 he
  rw [endLv] at he
  split at he
  ·simp at he
  ·rename_i hc
   obtain ⟨k,hk,he⟩:=List.mem_filterMap.1 he
   rw [endOn] at he
   split at he
   ·rename_i y hy
    split at he
    ·rename_i hg
     cases he
     exact .inr ⟨k,y,rfl,hy,hg.1,hg.2,⟨s,hs,rfl,rfl⟩,hlv,fun hh=>hc (.inl hh),by show seenF x.clues≤lv;omega⟩
    ·cases he
   ·cases he
theorem z1025 {n:Net} {x:Missed} (hx:Hunted n x) {p:Int} (h:CanIn n x p):(whereP n x).any (fun y=>y == p)=true:=by
 obtain ⟨m,h1,h2⟩:=h
 obtain ⟨s,hs,rfl,rfl⟩:=(z110 hx).2 h1
 exact (z264 hx (z1105 hs h2)).1 (by show (-1:Int)<0;decide)
theorem z1024 {n:Net} {x:Missed} (hx:Hunted n x) {k:Int} (h:CanOn n x k):(whereW n x).any (fun y=>y == k)=true:=by
 obtain ⟨j,y,m,lv,rfl,h1,h2,h3,h4,h5,h6⟩:=h
 obtain ⟨s,hs,e1,e2⟩:=(z110 hx).2 h3
 rw [← e1,← e2] at h4
 exact (z264 hx (z1103 hs h4 h5 h6 h1 h2 e1.symm)).2 (by show ¬ ((j:Int)<0);omega)
theorem z237:∀ (E:List EndT) (a:List Int × List Int),(∀ j:Nat,(E.foldl tally a).1.getD j 0≠a.1.getD j 0→∃ e ∈ E,e.pa<0∧e.pl.toNat=j)∧(∀ j:Nat,(E.foldl tally a).2.getD j 0≠a.2.getD j 0→∃ e ∈ E,¬ e.pa<0∧e.pa.toNat=j)
 | [],a=>⟨fun j h=>absurd rfl h,fun j h=>absurd rfl h⟩
 | e::E,a=>by
  obtain ⟨h1,h2⟩:=z237 E (tally a e)
  have key:∀ (l:List Int) (i:Int) (j:Nat),i.toNat≠j→(bump1 l i).getD j 0=l.getD j 0:=fun l i j hij=>by
   rw [bump1,List.getD_eq_getElem?_getD,List.getElem?_set_ne hij,← List.getD_eq_getElem?_getD]
  refine ⟨fun j hj=>?_,fun j hj=>?_⟩
  ·by_cases hc:((e::E).foldl tally a).1.getD j 0=(tally a e).1.getD j 0
   ·rw [List.foldl_cons] at hc hj
    rw [hc,tally] at hj
    split at hj
    ·rename_i hp
     by_cases hij:e.pl.toNat=j
     ·exact ⟨e,by simp,hp,hij⟩
     ·exact absurd (key _ _ _ hij) hj
    ·exact absurd rfl hj
   ·obtain ⟨e',he',h⟩:=h1 j hc
    exact ⟨e',by simp [he'],h⟩
  ·by_cases hc:((e::E).foldl tally a).2.getD j 0=(tally a e).2.getD j 0
   ·rw [List.foldl_cons] at hc hj
    rw [hc,tally] at hj
    split at hj
    ·exact absurd rfl hj
    ·rename_i hp
     by_cases hij:e.pa.toNat=j
     ·exact ⟨e,by simp,hp,hij⟩
     ·exact absurd (key _ _ _ hij) hj
   ·obtain ⟨e',he',h⟩:=h2 j hc
    exact ⟨e',by simp [he'],h⟩
theorem z897 {l:List Int} {p:Int} (h:(posL l).any (fun y=>y == p)=true):0≤p∧p.toNat<l.length∧0<l.getD p.toNat 0:=by
 obtain ⟨q,hq,he⟩:=List.any_eq_true.1 h
 rw [beq_iff_eq] at he
 subst he
 rw [posL] at hq
 obtain ⟨i,hi,rfl⟩:=List.mem_map.1 hq
 obtain ⟨h2,h3⟩:=List.mem_filter.1 hi
 have h2:=List.mem_range.1 h2
 have h3:=of_decide_eq_true h3
 refine ⟨by omega,by omega,?_⟩
 rwa [getI] at h3
theorem z918 {n:Net} {x:Missed} (hx:Hunted n x) {p:Int}:(whereP n x).any (fun y=>y == p)=true↔CanIn n x p:=by
 refine ⟨fun h=>?_,z1025 hx⟩
 obtain ⟨h1,h2,h3⟩:=z897 h
 rw [tallyE] at h3
 obtain ⟨e,he,hp,hj⟩:=(z237 (endsL n x (huntedA n x)) (List.replicate n.places.toNat 0,List.replicate n.paths.length 0)).1 p.toNat (by simp only [z296];omega)
 have hr:=z265 (z50 hx) he
 have:e.pl=p:=by omega
 subst this
 rcases z266 he with ⟨_,a1,a2⟩ | ⟨k,_,a1,_⟩
 ·exact ⟨e.mi,(z110 hx).1 a1,a2⟩
 ·omega
theorem z917 {n:Net} {x:Missed} (hx:Hunted n x) {k:Int}:(whereW n x).any (fun y=>y == k)=true↔CanOn n x k:=by
 refine ⟨fun h=>?_,z1024 hx⟩
 obtain ⟨h1,h2,h3⟩:=z897 h
 rw [tallyE] at h3
 obtain ⟨e,he,hp,hj⟩:=(z237 (endsL n x (huntedA n x)) (List.replicate n.places.toNat 0,List.replicate n.paths.length 0)).2 k.toNat (by simp only [z296];omega)
 rcases z266 he with ⟨a1,_⟩ | ⟨j,y,a1,a2,a3,a4,a5,a6,a7,a8⟩
 ·exact absurd a1 hp
 ·have hk:k=(j:Int):=by omega
  rw [← a4] at a5 a6
  exact ⟨j,y,e.mi,e.lv,hk,a2,a3,(z110 hx).1 a5,a6,a7,a8⟩
end Go.Ab
namespace Go.Ab
open Go.RowKit Go.Proofs
set_option maxHeartbeats 2000000
theorem z440 {cl:List Clue} {p top w:Int}:∀ (f:Nat) (m:Int),w ∈ staysF cl p top f m↔m≤w∧w≤top∧w<m + f∧∀ u,m≤u→u≤w→atB cl p u=true
 | 0,m=>by
  constructor
  ·intro h;simp [staysF] at h
  ·rintro ⟨h1,_,h3,_⟩;omega
 | f + 1,m=>by
  rw [staysF]
  split
  ·rename_i hc
   rw [List.mem_cons,z440 f (m + 1)]
   constructor
   ·rintro (rfl | ⟨h1,h2,h3,h4⟩)
    ·refine ⟨Int.le_refl _,hc.1,by omega,fun u h1 h2=>?_⟩
     obtain rfl:u=w:=by omega
     exact hc.2
    ·refine ⟨by omega,h2,by omega,fun u g1 g2=>?_⟩
     by_cases hu:u=m
     ·rw [hu];exact hc.2
     ·exact h4 u (by omega) g2
   ·rintro ⟨h1,h2,h3,h4⟩
    by_cases hw:w=m
    ·exact .inl hw
    ·exact .inr ⟨by omega,h2,by omega,fun u g1 g2=>h4 u (by omega) g2⟩
  ·rename_i hc
   constructor
   ·intro h;simp at h
   ·rintro ⟨h1,h2,h3,h4⟩
    exact absurd ⟨by omega,h4 m (Int.le_refl _) h1⟩ hc
theorem z240 {x:Missed} {p m most w:Int}:w ∈ staysL x p m most↔m≤w∧w≤most∧w≤x.now∧∀ u,m≤u→u≤w→atB x.clues p u=true:=by
 rw [staysL,z440]
 constructor
 ·rintro ⟨h1,h2,_,h4⟩;exact ⟨h1,by omega,by omega,h4⟩
 ·rintro ⟨h1,h2,h3,h4⟩;exact ⟨h1,by omega,by omega,h4⟩
theorem z233 {cl:List Clue} {t:Int} {b:Bool}:∀ (f:Nat) (m:Int),(t,b) ∈ walksF cl f m↔m≤t∧t<m + f∧b=onB8 cl t∧∀ u,m≤u→u<t→onB8 cl u=true
 | 0,m=>by
  constructor
  ·intro h;simp [walksF] at h
  ·rintro ⟨h1,h2,_⟩;omega
 | f + 1,m=>by
  rw [walksF,List.mem_cons]
  constructor
  ·rintro (h | h)
   ·cases h
    exact ⟨Int.le_refl _,by omega,rfl,fun u h1 h2=>by omega⟩
   ·split at h
    ·rename_i hc
     obtain ⟨h1,h2,h3,h4⟩:=(z233 f (m + 1)).1 h
     refine ⟨by omega,by omega,h3,fun u g1 g2=>?_⟩
     by_cases hu:u=m
     ·rw [hu];exact hc
     ·exact h4 u (by omega) g2
    ·simp at h
  ·rintro ⟨h1,h2,h3,h4⟩
   by_cases ht:t=m
   ·subst ht;rw [h3];exact .inl rfl
   ·refine .inr ?_
    rw [if_pos (h4 m (Int.le_refl _) (by omega))]
    exact (z233 f (m + 1)).2 ⟨by omega,by omega,h3,fun u g1 g2=>h4 u (by omega) g2⟩
theorem z919 {x:Missed} {lv t:Int} {b:Bool}:(t,b) ∈ walksL x lv↔lv + 1≤t∧t≤x.now∧b=onB8 x.clues t∧∀ u,lv + 1≤u→u<t→onB8 x.clues u=true:=by
 rw [walksL,z233]
 constructor
 ·rintro ⟨h1,h2,h3⟩;exact ⟨h1,by omega,h3⟩
 ·rintro ⟨h1,h2,h3⟩;exact ⟨h1,by omega,h3⟩
theorem z893 {lv:Int}:∀ (cl:List Clue) (a:Int),(cl.foldl (fun a c=>if c.seen then max a c.minute else a) a≤lv)↔a≤lv∧∀ c ∈ cl,c.seen=true→c.minute≤lv
 | [],a=>by simp
 | c::cl,a=>by
  rw [List.foldl_cons,z893 cl]
  by_cases hs:c.seen=true
  ·rw [if_pos hs]
   constructor
   ·rintro ⟨h1,h2⟩
    refine ⟨by omega,fun d hd hds=>?_⟩
    rcases List.mem_cons.1 hd with rfl | hd
    ·omega
    ·exact h2 d hd hds
   ·rintro ⟨h1,h2⟩
    have:=h2 c (by simp) hs
    exact ⟨by omega,fun d hd=>h2 d (by simp [hd])⟩
  ·rw [if_neg hs]
   constructor
   ·rintro ⟨h1,h2⟩
    refine ⟨h1,fun d hd hds=>?_⟩
    rcases List.mem_cons.1 hd with rfl | hd
    ·exact absurd hds hs
    ·exact h2 d hd hds
   ·rintro ⟨h1,h2⟩
    exact ⟨h1,fun d hd=>h2 d (by simp [hd])⟩
theorem z1135 {cl:List Clue} {lv:Int} (h0:0≤lv):seenF cl≤lv↔∀ c ∈ cl,c.seen=true→c.minute≤lv:=by
 rw [seenF,z893]
 exact ⟨fun h=>h.2,fun h=>⟨h0,h⟩⟩
def deniedB (cl:List Clue) (pl m:Int):Bool:=cl.any fun c=>c.minute == m && ((decide (pl ≥ 0) && hasB c.places pl) != c.seen)
def stayD (cl:List Clue) (pl a b:Int):Bool:=(List.range (b + 1 - a).toNat).all fun i=>!deniedB cl pl (a + i)
theorem z212 {cl:List Clue} {pl a b:Int}:stayD cl pl a b=true↔∀ m,a≤m→m≤b→deniedB cl pl m=false:=by
 rw [stayD,List.all_eq_true]
 constructor
 ·intro h m h1 h2
  have:=h (m - a).toNat (List.mem_range.2 (by omega))
  rw [show a + ((m - a).toNat:Int)=m by omega] at this
  simpa using this
 ·intro h i hi
  have:=List.mem_range.1 hi
  rw [h (a + i) (by omega) (by omega)]
  rfl
theorem z731 {cl:List Clue} {pl m:Int} (h:0≤pl):deniedB cl pl m=!atB cl pl m:=by
 rw [deniedB,atB,Bool.not_not]
 congr 1
 funext c
 rw [decide_eq_true (show pl ≥ 0 from h),Bool.true_and]
theorem z730 {cl:List Clue} {m:Int}:deniedB cl (-1) m=!onB8 cl m:=by
 rw [deniedB,onB8,Bool.not_not]
 congr 1
 funext c
 rw [decide_eq_false (by decide),Bool.false_and]
 cases c.seen <;> rfl
theorem z526 {cl:List Clue} {pl a b:Int} (h:0≤pl):stayD cl pl a b=true↔∀ m,a≤m→m≤b→atB cl pl m=true:=by
 rw [z212]
 constructor
 ·intro g m h1 h2
  have:=g m h1 h2
  rw [z731 h] at this
  simpa using this
 ·intro g m h1 h2
  rw [z731 h,g m h1 h2];rfl
theorem z891 {cl:List Clue} {a b:Int}:stayD cl (-1) a b=true↔∀ m,a≤m→m≤b→onB8 cl m=true:=by
 rw [z212]
 constructor
 ·intro g m h1 h2
  have:=g m h1 h2
  rw [z730] at this
  simpa using this
 ·intro g m h1 h2
  rw [z730,g m h1 h2];rfl
theorem z1154 {cl:List Clue} {m:Int}:onB8 cl m=true↔∀ c ∈ cl,c.seen=true→c.minute≠m:=by
 rw [onB8,Bool.not_eq_true',List.any_eq_false]
 constructor
 ·intro h c hc hs he
  exact h c hc (by rw [he,hs];simp)
 ·intro h c hc hh
  simp only [Bool.and_eq_true,beq_iff_eq] at hh
  exact h c hc hh.2 hh.1
structure PassT where
 pl:Int
 ar:Int
 lv:Int
 pa:Int
def PassT.row (a:PassT):List DV:=[.i a.pl,.i a.ar,.i a.lv,.i a.pa]
def isPathB (n:Net) (k:Int):Bool:=withinB k 0 ((n.paths.length:Int) - 1)
def traceR (n:Net) (x:Missed):List PassT→Int→Int→Bool
 | [],_,_=>false
 | q::l,pl,ar=>decide (q.pl=pl) && (decide (q.ar=ar) && (withinB q.lv ar x.now && (stayD x.clues pl ar q.lv &&
  (if q.pa=-1 then decide (q.lv=x.now) && l.isEmpty else
   isPathB n q.pa && (match n.paths[q.pa.toNat]? with
    | none=>false
    | some y=>decide (y.frm=pl) && (decide (y.grade≤x.party.grade) && (decide (q.lv≤wr (ar + x.rest)) && (match l with
     | []=>decide (q.lv<x.now) && stayD x.clues (-1) (wr (q.lv + 1)) x.now
     | r::_=>withinB r.ar (wr (q.lv + (spanW y x.party).lo)) (wr (q.lv + (spanW y x.party).hi)) && (decide (r.ar≤x.now) && (stayD x.clues (-1) (wr (q.lv + 1)) (wr (r.ar - 1)) && traceR n x l y.to r.ar))))))))))
end Go.Ab
namespace Go.Ab
open Go.RowKit Go.Proofs
set_option maxHeartbeats 8000000
set_option maxRecDepth 20000
attribute [local irreducible] WalkL Walk
theorem z1340 (s n:Int) (hn:0≤n∧n<2 ^ 62):Fn Tryd.prog 98 [.i s,.i n] (.bool (hasB s n)):=by
 have e1:IntKind.u64.wrap n=n:=by
  have h1:=hn.1
  have h2:=hn.2
  simp only [IntKind.wrap,IntKind.bits,IntKind.signed,Bool.false_and,Bool.false_eq_true,if_false]
  omega
 have n1:¬ n<0:=by omega
 refine z10 11 Tryd.call98 Tryd.func98 rfl (by decide) fun J=>?_
 simp only [go_sem,St.start,Tryd.ntmps98,Tryd.results98]
 repeat (first | refine nx ?_ | (refine z3 fun K hK=>?_;simp only [go_sem,e1,n1];apply hK;clear hK K))
 simp only [go_sem,hasB]
theorem z1337 (l:List Int) (x:Int) (hl:l.length<2 ^ 30):Fn Tryd.prog 16 [.sl (intRows l),.i x] (.bool (l.any fun y=>y == x)):=by
 have hrl:=z18 l
 refine z10 18 Tryd.call16 Tryd.func16 rfl (by decide) fun J=>?_
 simp only [go_sem,St.start,Tryd.ntmps16,Tryd.results16]
 repeat (first | refine nx ?_ | (refine z3 fun K hK=>?_;simp only [go_sem];apply hK;clear hK K))
 refine z13 (fun (i:Nat)=>[(5,.d (.i i))]) (fun _=>[]) (fun i=>i≤l.length∧(l.take i).any (fun y=>y == x)=false) (fun i=>l.length - i) 0 ?_ ⟨Nat.zero_le _,rfl⟩ ?_
 ·simp only [go_sem]
  refine weA ?_ ?_ <;> simp
 ·intro i ⟨hi,hall⟩
  simp only [go_sem]
  repeat (first | refine nx ?_ | (refine z3 fun K hK=>?_;simp only [go_sem,hrl];apply hK;clear hK K))
  refine z5 rfl (fun hb=>?_) (fun hb=>?_)
  ·have hlt:i<l.length:=by simpa using hb
   have hw:IntKind.i64.wrap ((i:Int) + 1)=((i + 1:Nat):Int):=by rw [z11 (by omega)];simp
   obtain ⟨y,hy⟩:∃ y,l[i]?=some y:=⟨_,List.getElem?_eq_getElem hlt⟩
   have g1:=z257 hy
   repeat (first | refine nx ?_ | (refine z3 fun K hK=>?_;simp only [go_sem,g1];apply hK;clear hK K))
   refine z5 rfl (fun hd=>?_) (fun hd=>?_)
   ·have ha:=z72 (q:=fun z:Int=>z == x) hy hd
    repeat (first | refine nx ?_ | (refine z3 fun K hK=>?_;simp only [go_sem];apply hK;clear hK K))
    simp only [go_sem,ha]
   ·repeat (first | refine nx ?_ | (refine z3 fun K hK=>?_;simp only [go_sem,hw];apply hK;clear hK K))
    refine ⟨rfl,i + 1,?_,⟨hlt,z34 hy hall hd⟩,by omega⟩
    refine weA ?_ ?_ <;> simp
  ·have he:i=l.length:=by (have:¬ i<l.length:=by simpa using hb);omega
   subst he
   rw [List.take_length] at hall
   repeat (first | refine nx ?_ | (refine z3 fun K hK=>?_;simp only [go_sem];apply hK;clear hK K))
   simp only [go_sem,hall]
theorem z1348 (cl:List Clue) (pl m:Int) (hp:pl<2 ^ 62) (hl:cl.length<2 ^ 30):Fn Tryd.prog 78 [.sl (cl.map Clue.row),.i pl,.i m] (.bool (deniedB cl pl m)):=by
 have hcl:(cl.map Clue.row).length=cl.length:=by simp
 obtain ⟨q,hq⟩:∃ q:Clue→Bool,q=fun c=>c.minute == m && ((decide (pl ≥ 0) && hasB c.places pl) != c.seen):=⟨_,rfl⟩
 rw [deniedB,← hq]
 refine z10 40 Tryd.call78 Tryd.func78 rfl (by decide) fun J=>?_
 simp only [go_sem,St.start,Tryd.ntmps78,Tryd.results78]
 repeat (first | refine nx ?_ | (refine z3 fun K hK=>?_;simp only [go_sem];apply hK;clear hK K))
 refine z13 (fun (i:Nat)=>[(7,.d (.i i))]) (fun _=>[]) (fun i=>i≤cl.length∧(cl.take i).any q=false) (fun i=>cl.length - i) 0 ?_ ⟨Nat.zero_le _,rfl⟩ ?_
 ·simp only [go_sem]
  refine weA ?_ ?_ <;> simp
 ·intro i ⟨hi,hall⟩
  simp only [go_sem]
  repeat (first | refine nx ?_ | (refine z3 fun K hK=>?_;simp only [go_sem];apply hK;clear hK K))
  refine z5 rfl (fun hb=>?_) (fun hb=>?_)
  ·have hlt:i<cl.length:=by simpa using hb
   have hw:IntKind.i64.wrap ((i:Int) + 1)=((i + 1:Nat):Int):=by rw [z11 (by omega)];simp
   obtain ⟨c,hc⟩:∃ c,cl[i]?=some c:=⟨_,List.getElem?_eq_getElem hlt⟩
   have hcq:q c=(c.minute == m && ((decide (pl ≥ 0) && hasB c.places pl) != c.seen)):=by rw [hq]
   have g1:(cl.map Clue.row)[i]?=some [.i c.minute,.i c.places,.bool c.seen]:=by rw [List.getElem?_map,hc];rfl
   cases hm:c.minute != m
   ·have hm2:(c.minute == m)=true:=by simpa using hm
    rw [hm2,Bool.true_and] at hcq
    by_cases h0:pl ≥ 0
    ·have hd0:decide (pl ≥ 0)=true:=decide_eq_true h0
     have h98:=z1340 c.places pl ⟨h0,hp⟩
     rw [hd0,Bool.true_and] at hcq
     repeat (first | refine nx ?_ | (refine z3 fun K hK=>?_;simp only [go_sem,g1,hm];apply hK;clear hK K))
     refine z6 rfl ?_
     repeat (first | refine nx ?_ | (refine z3 fun K hK=>?_;simp only [go_sem,g1,hd0];(repeat (first | (refine ⟨_,.lent (hf:=h98) (hd:=rfl) (hr:=rfl),?_⟩;simp only [go_sem,g1,hd0]) | (refine ⟨_,.given (hf:=h98) (hd:=rfl) (ha:=rfl),?_⟩;simp only [go_sem,g1,hd0])));apply hK;clear hK K))
     refine z5 rfl (fun hd=>?_) (fun hd=>?_)
     ·have ha:=z72 (q:=q) hc (by rw [hcq];exact hd)
      repeat (first | refine nx ?_ | (refine z3 fun K hK=>?_;simp only [go_sem];apply hK;clear hK K))
      simp only [go_sem,ha]
     ·repeat (first | refine nx ?_ | (refine z3 fun K hK=>?_;simp only [go_sem,hw];apply hK;clear hK K))
      refine ⟨rfl,i + 1,?_,⟨hlt,z34 hc hall (by rw [hcq];exact hd)⟩,by omega⟩
      refine weA ?_ ?_ <;> simp
    ·have hd0:decide (pl ≥ 0)=false:=decide_eq_false h0
     rw [hd0,Bool.false_and] at hcq
     repeat (first | refine nx ?_ | (refine z3 fun K hK=>?_;simp only [go_sem,g1,hm];apply hK;clear hK K))
     refine z6 rfl ?_
     repeat (first | refine nx ?_ | (refine z3 fun K hK=>?_;simp only [go_sem,g1,hd0];apply hK;clear hK K))
     refine z5 rfl (fun hd=>?_) (fun hd=>?_)
     ·have ha:=z72 (q:=q) hc (by rw [hcq];exact hd)
      repeat (first | refine nx ?_ | (refine z3 fun K hK=>?_;simp only [go_sem];apply hK;clear hK K))
      simp only [go_sem,ha]
     ·repeat (first | refine nx ?_ | (refine z3 fun K hK=>?_;simp only [go_sem,hw];apply hK;clear hK K))
      refine ⟨rfl,i + 1,?_,⟨hlt,z34 hc hall (by rw [hcq];exact hd)⟩,by omega⟩
      refine weA ?_ ?_ <;> simp
   ·have hm2:(c.minute == m)=false:=by simpa using hm
    rw [hm2,Bool.false_and] at hcq
    repeat (first | refine nx ?_ | (refine z3 fun K hK=>?_;simp only [go_sem,g1,hm];apply hK;clear hK K))
    refine z9 rfl ?_
    repeat (first | refine nx ?_ | (refine z3 fun K hK=>?_;simp only [go_sem,hw];apply hK;clear hK K))
    refine ⟨rfl,i + 1,?_,⟨hlt,z34 hc hall hcq⟩,by omega⟩
    refine weA ?_ ?_ <;> simp
  ·have he:i=cl.length:=by (have:¬ i<cl.length:=by simpa using hb);omega
   subst he
   rw [List.take_length] at hall
   repeat (first | refine nx ?_ | (refine z3 fun K hK=>?_;simp only [go_sem];apply hK;clear hK K))
   simp only [go_sem,hall]
theorem z1285 (cl:List Clue) (pl a b:Int) (hp:pl<2 ^ 62) (hl:cl.length<2 ^ 30) (ha:-(2 ^ 40)≤a) (hb:b≤2 ^ 40):Fn Tryd.prog 43 [.sl (cl.map Clue.row),.i pl,.i a,.i b] (.bool (stayD cl pl a b)):=by
 have h78:=fun m=>z1348 cl pl m hp hl
 obtain ⟨R,hR⟩:∃ R,R=stayD cl pl a b:=⟨_,rfl⟩
 rw [← hR]
 refine z10 20 Tryd.call43 Tryd.func43 rfl (by decide) fun J=>?_
 simp only [go_sem,St.start,Tryd.ntmps43,Tryd.results43]
 repeat (first | refine nx ?_ | (refine z3 fun K hK=>?_;simp only [go_sem];apply hK;clear hK K))
 refine z13 (fun (j:Nat)=>[(9,.d (.i (a + j)))]) (fun _=>[]) (fun j=>j≤(b + 1 - a).toNat∧∀ i:Nat,i<j→deniedB cl pl (a + i)=false) (fun j=>(b + 1 - a).toNat + 1 - j) 0 ?_ ⟨Nat.zero_le _,fun i hi=>by omega⟩ ?_
 ·simp only [go_sem,Int.ofNat_zero,Int.add_zero]
  refine weA ?_ ?_ <;> simp
 ·intro j ⟨hj,hall⟩
  simp only [go_sem]
  repeat (first | refine nx ?_ | (refine z3 fun K hK=>?_;simp only [go_sem];apply hK;clear hK K))
  refine z5 rfl (fun hb=>?_) (fun hb=>?_)
  ·have hle:a + (j:Int)≤b:=by simpa using hb
   have hw:IntKind.i64.wrap (a + (j:Int) + 1)=a + ((j + 1:Nat):Int):=by rw [z11 (by omega)];omega
   cases hd:deniedB cl pl (a + j)
   ·have h78j:=h78 (a + j)
    rw [hd] at h78j
    repeat (first | refine nx ?_ | (refine z3 fun K hK=>?_;simp only [go_sem];(repeat (first | (refine ⟨_,.lent (hf:=h78j) (hd:=rfl) (hr:=rfl),?_⟩;simp only [go_sem]) | (refine ⟨_,.given (hf:=h78j) (hd:=rfl) (ha:=rfl),?_⟩;simp only [go_sem])));apply hK;clear hK K))
    refine z6 rfl ?_
    repeat (first | refine nx ?_ | (refine z3 fun K hK=>?_;simp only [go_sem,hw];apply hK;clear hK K))
    refine ⟨rfl,j + 1,?_,⟨by omega,fun i hi=>?_⟩,by omega⟩
    ·try simp only [go_sem]
     refine weA ?_ ?_ <;> simp
    ·by_cases hij:i=j
     ·rw [hij];exact hd
     ·exact hall i (by omega)
   ·have h78j:=h78 (a + j)
    rw [hd] at h78j
    have hf:R=false:=by
     cases hRt:R
     ·rfl
     ·rw [hRt] at hR
      have:=z212.1 hR.symm (a + j) (by omega) hle
      rw [this] at hd
      cases hd
    repeat (first | refine nx ?_ | (refine z3 fun K hK=>?_;simp only [go_sem];(repeat (first | (refine ⟨_,.lent (hf:=h78j) (hd:=rfl) (hr:=rfl),?_⟩;simp only [go_sem]) | (refine ⟨_,.given (hf:=h78j) (hd:=rfl) (ha:=rfl),?_⟩;simp only [go_sem])));apply hK;clear hK K))
    refine z9 rfl ?_
    repeat (first | refine nx ?_ | (refine z3 fun K hK=>?_;simp only [go_sem];apply hK;clear hK K))
    rw [hf]
    simp only [go_sem]
  ·have hgt:¬ a + (j:Int)≤b:=by simpa using hb
   have ht:R=true:=by
    rw [hR]
    refine z212.2 fun m h1 h2=>?_
    have:=hall (m - a).toNat (by omega)
    rwa [show a + ((m - a).toNat:Int)=m by omega] at this
   repeat (first | refine nx ?_ | (refine z3 fun K hK=>?_;simp only [go_sem];apply hK;clear hK K))
   simp only [go_sem,ht]
theorem z1368 (n:Net) (x:Missed) (hs:n.Small) (hl:x.clues.length<2 ^ 30):Fn Tryd.prog 12 [.agg n.cells,.agg x.row] (.bool (!farX n x && openX n x == 0)):=by
 have h40:=z1360 n x hs hl
 have h41:=z1286 n x hs hl
 rw [Net.cells] at *
 rw [Missed.row] at *
 refine z10 15 Tryd.call12 Tryd.func12 rfl (by decide) fun J=>?_
 simp only [go_sem,St.start,Tryd.ntmps12,Tryd.results12,Net.cells,Missed.row]
 cases hf:farX n x
 ·rw [hf] at h40
  repeat (first | refine nx ?_ | (refine z3 fun K hK=>?_;simp only [go_sem];(repeat (first | (refine ⟨_,.lent (hf:=h40) (hd:=rfl) (hr:=rfl),?_⟩;simp only [go_sem]) | (refine ⟨_,.lent (hf:=h41) (hd:=rfl) (hr:=rfl),?_⟩;simp only [go_sem]) | (refine ⟨_,.given (hf:=h40) (hd:=rfl) (ha:=rfl),?_⟩;simp only [go_sem]) | (refine ⟨_,.given (hf:=h41) (hd:=rfl) (ha:=rfl),?_⟩;simp only [go_sem])));apply hK;clear hK K))
  simp only [go_sem,Bool.not_false,Bool.true_and]
 ·rw [hf] at h40
  repeat (first | refine nx ?_ | (refine z3 fun K hK=>?_;simp only [go_sem];(repeat (first | (refine ⟨_,.lent (hf:=h40) (hd:=rfl) (hr:=rfl),?_⟩;simp only [go_sem]) | (refine ⟨_,.given (hf:=h40) (hd:=rfl) (ha:=rfl),?_⟩;simp only [go_sem])));apply hK;clear hK K))
  simp only [go_sem,Bool.not_true,Bool.false_and]
end Go.Ab
namespace Go.Ab
open Go.RowKit Go.Proofs
set_option maxHeartbeats 16000000
set_option maxRecDepth 20000
attribute [local irreducible] WalkL Walk
def passRows (l:List PassT):List (List DV):=l.map PassT.row
theorem z122 (l:List PassT):(passRows l).length=l.length:=by simp [passRows]
theorem z176 {l:List PassT} {i:Nat} {q:PassT} (h:l[i]?=some q):(passRows l)[i]?=some [.i q.pl,.i q.ar,.i q.lv,.i q.pa]:=by rw [passRows,List.getElem?_map,h];rfl
def bad1 (x:Missed) (q:PassT) (pl ar:Int):Bool:=(q.pl != pl) || ((q.ar != ar) || (!withinB q.lv ar x.now || !stayD x.clues pl ar q.lv))
def bad2 (x:Missed) (q:PassT) (y:Path) (pl ar:Int):Bool:=(y.frm != pl) || (!decide (y.grade≤x.party.grade) || decide (q.lv > wr (ar + x.rest)))
def bad3 (x:Missed) (q r:PassT) (s:Span):Bool:=!withinB r.ar (wr (q.lv + s.lo)) (wr (q.lv + s.hi)) || (decide (r.ar > x.now) || !stayD x.clues (-1) (wr (q.lv + 1)) (wr (r.ar - 1)))
theorem z926 (n:Net) (x:Missed) (q:PassT) (l:List PassT) (pl ar:Int):traceR n x (q::l) pl ar=(!bad1 x q pl ar && (if q.pa=-1 then (q.lv == x.now) && l.isEmpty else isPathB n q.pa && (match n.paths[q.pa.toNat]? with
  | none=>false
  | some y=>!bad2 x q y pl ar && (match l with
   | []=>decide (q.lv<x.now) && stayD x.clues (-1) (wr (q.lv + 1)) x.now
   | r::_=>!bad3 x q r (spanW y x.party) && traceR n x l y.to r.ar)))):=by
 have hd:∀ a b:Int,decide (a=b)=(a == b):=fun a b=>by by_cases h:a=b <;> simp [h]
 have hn:∀ a b:Int,(a != b)=!(a == b):=fun a b=>rfl
 have hg:∀ a b:Int,decide (a > b)=!decide (a≤b):=fun a b=>by by_cases h:a≤b <;> simp [h];omega
 rw [traceR,bad1,hd,hd,hd,hn,hn]
 simp only [Bool.not_or,Bool.not_not]
 by_cases hp:q.pa=-1
 ·rw [if_pos hp,if_pos hp]
  simp only [Bool.and_assoc]
 ·rw [if_neg hp,if_neg hp]
  cases hy:n.paths[q.pa.toNat]? with
  | none=>simp only [Bool.and_assoc]
  | some y =>
   dsimp only
   rw [bad2,hn,hd,hg q.lv (wr (ar + x.rest))]
   simp only [Bool.not_or,Bool.not_not]
   cases l with
   | nil=>simp only [Bool.and_assoc]
   | cons r l =>
    dsimp only
    rw [bad3,hg r.ar x.now]
    simp only [Bool.not_or,Bool.not_not,Bool.and_assoc]
end Go.Ab
namespace Go.Ab
open Go.RowKit Go.Proofs
set_option maxHeartbeats 8000000
set_option maxRecDepth 20000
attribute [local irreducible] WalkL Walk
def RevTo (rows cur:List (List DV)) (i:Nat):Prop:=cur.length=rows.length∧∀ k,k<rows.length→cur[k]?=if k<i∨rows.length<k + 1 + i then rows[rows.length - 1 - k]? else rows[k]?
theorem z980 {rows cur:List (List DV)} {i:Nat} (h:RevTo rows cur i) (hi:i + i + 1<rows.length) {a b:List DV} (ha:rows[i]?=some a) (hb:rows[rows.length - 1 - i]?=some b):RevTo rows ((cur.set i b).set (rows.length - 1 - i) a) (i + 1):=by
 obtain ⟨h1,h2⟩:=h
 refine ⟨by simp [h1],fun k hk=>?_⟩
 rw [List.getElem?_set,List.getElem?_set]
 by_cases e1:rows.length - 1 - i=k
 ·rw [if_pos e1,if_pos (by simp [h1];omega),if_pos (.inr (by omega)),← e1,show rows.length - 1 - (rows.length - 1 - i)=i by omega,ha]
 ·rw [if_neg e1]
  by_cases e2:i=k
  ·rw [if_pos e2,if_pos (by rw [h1];omega),if_pos (.inl (by omega)),← e2,hb]
  ·rw [if_neg e2,h2 k hk]
   by_cases e3:k<i∨rows.length<k + 1 + i
   ·rw [if_pos e3,if_pos (by omega)]
   ·rw [if_neg e3,if_neg (by omega)]
theorem z981 {rows cur:List (List DV)} {i:Nat} (h:RevTo rows cur i) (hi:¬ i + i + 1<rows.length):cur=rows.reverse:=by
 obtain ⟨h1,h2⟩:=h
 refine List.ext_getElem? fun k=>?_
 by_cases hk:k<rows.length
 ·rw [h2 k hk,List.getElem?_reverse hk]
  split
  ·rfl
  ·rw [show rows.length - 1 - k=k by omega]
 ·rw [List.getElem?_eq_none (by omega),List.getElem?_eq_none (by simp;omega)]
theorem z1351 (rows:List (List DV)) (hr:∀ r ∈ rows,∃ p q u v:Int,r=[.i p,.i q,.i u,.i v]) (h1:1≤rows.length) (h2:rows.length<2 ^ 30):FnG Tryd.prog 69 [.arr 41 4 rows] [0] [.own 0] (.tup []) [.arr 41 4 rows.reverse]:=by
 refine z40 30 Tryd.call69 Tryd.func69 rfl (by decide) [] [(0,0)] (by simp only [List.length_cons,List.length_nil];decide) (by kernel_rfl) fun J=>?_
 simp only [go_sem,St.startG,Tryd.ntmps69,Tryd.results69,List.map_cons,List.map_nil,List.range_succ,  ]
 have hw0:IntKind.i64.wrap ((rows.length:Int) - 1)=((rows.length - 1 - 0:Nat):Int):=by rw [z11 (by omega)];omega
 repeat (first | refine nx ?_ | (refine z3 fun K hK=>?_;simp only [go_sem,hw0];apply hK;clear hK K))
 refine z13 (fun (a:Nat × List (List DV))=>[(2,.d (.i (a.1:Nat))),(3,.d (.i ((rows.length - 1 - a.1:Nat):Int)))]) (fun a=>[(30,some (.arr 41 4 a.2))]) (fun a=>RevTo rows a.2 a.1∧a.1 + a.1≤rows.length) (fun a=>rows.length - a.1) (0,rows) ?_ ⟨⟨rfl,fun k hk=>by rw [if_neg (by omega)]⟩,Nat.zero_le _⟩ ?_
 ·simp only [go_sem]
  refine weA ?_ ?_ <;> simp
 ·rintro ⟨i,cur⟩ ⟨hi,hi2⟩
  dsimp only at hi hi2
  simp only [go_sem]
  repeat (first | refine nx ?_ | (refine z3 fun K hK=>?_;simp only [go_sem];apply hK;clear hK K))
  refine z5 rfl (fun hb=>?_) (fun hb=>?_)
  ·have hb:(i:Int)<((rows.length - 1 - i:Nat):Int):=by simpa using hb
   have hlt:i + i + 1<rows.length:=by omega
   have hcl:=hi.1
   obtain ⟨a,ha⟩:∃ a,rows[i]?=some a:=⟨_,List.getElem?_eq_getElem (by omega)⟩
   obtain ⟨b,hb2⟩:∃ a,rows[rows.length - 1 - i]?=some a:=⟨_,List.getElem?_eq_getElem (by omega)⟩
   have g1:cur[i]?=some a:=by rw [hi.2 i (by omega),if_neg (by omega),ha]
   have g2:cur[rows.length - 1 - i]?=some b:=by rw [hi.2 _ (by omega),if_neg (by omega),hb2]
   obtain ⟨a0,a1,a2,a3,rfl⟩:=hr a (List.mem_of_getElem? ha)
   obtain ⟨b0,b1,b2,b3,rfl⟩:=hr b (List.mem_of_getElem? hb2)
   obtain ⟨j,hj⟩:∃ j,j=rows.length - 1 - i:=⟨_,rfl⟩
   have hst:=z980 hi hlt ha hb2
   rw [← hj] at g2 hst
   have hwi:IntKind.i64.wrap ((i:Int) + 1)=((i + 1:Nat):Int):=by rw [z11 (by omega)];omega
   have hwj:IntKind.i64.wrap ((j:Int) - 1)=((rows.length - 1 - (i + 1):Nat):Int):=by rw [z11 (by omega)];omega
   have n1:¬ ((i:Int)<0):=by omega
   have n2:¬ ((j:Int)<0):=by omega
   have l1:i<rows.length:=by omega
   have l2:j<rows.length:=by omega
   have gset:∀ R,(cur.set i R)[j]?=cur[j]?:=fun R=>by rw [List.getElem?_set_ne (by omega)]
   rw [← hj]
   repeat (first | refine nx ?_ | (refine z3 fun K hK=>?_;simp only [go_sem];apply hK;clear hK K))
   refine z8 (by kernel_rfl) (by kernel_rfl) fun K hK=>?_
   simp only [go_sem,g1,g2,n1,n2,l1,l2,hcl,gset,List.length_set]
   refine ⟨by kernel_rfl,hK _ ?_⟩
   clear hK K
   repeat (first | refine nx ?_ | (refine z3 fun K hK=>?_;simp only [go_sem,hwi,hwj];apply hK;clear hK K))
   refine ⟨rfl,(i + 1,_),?_,⟨hst,by dsimp only;omega⟩,by dsimp only;omega⟩
   try simp only [go_sem]
   refine weA ?_ ?_ <;> simp
  ·have hb:¬ (i:Int)<((rows.length - 1 - i:Nat):Int):=by simpa using hb
   have he:=z981 hi (by omega)
   repeat (first | refine nx ?_ | (refine z3 fun K hK=>?_;simp only [go_sem];apply hK;clear hK K))
   simp only [go_sem,he]
def badTr (n:Net) (pl pa:Int):Bool:=!((pa == -1) && withinB pl 0 (n.places - 1)) && !((pl == -1) && withinB pa 0 ((n.paths.length:Int) - 1))
theorem z1361 (n:Net) (x:Missed) (pl pa:Int) (hs:n.Small) (hcl:x.clues.length<2 ^ 30):Fn Tryd.prog 29 [.agg n.cells,.agg x.row,.i pl,.i pa] (.i (if openX n x≠0 then openX n x else if badTr n pl pa then 1 else 0)):=by
 have h41:=z1286 n x hs hcl
 have hpl:=hs.paths
 by_cases ho:openX n x=0
 ·have hx:=z63 hcl ho
  have hp:=hx.net.places
  have h24:=z1274 n pl (by omega)
  have h26:=z1336 n pa (by omega)
  rw [if_neg (fun h=>h ho)]
  rw [ho] at h41
  rw [Net.cells] at *
  rw [Missed.row] at *
  refine z10 34 Tryd.call29 Tryd.func29 rfl (by decide) fun J=>?_
  simp only [go_sem,St.start,Tryd.ntmps29,Tryd.results29,Net.cells,Missed.row]
  repeat (first | refine nx ?_ | (refine z3 fun K hK=>?_;simp only [go_sem];(repeat (first | (refine ⟨_,.lent (hf:=h41) (hd:=rfl) (hr:=rfl),?_⟩;simp only [go_sem]) | (refine ⟨_,.given (hf:=h41) (hd:=rfl) (ha:=rfl),?_⟩;simp only [go_sem])));apply hK;clear hK K))
  refine z6 (by rfl) ?_
  cases q1:pa == -1 <;> cases q2:pl == -1 <;> cases q3:withinB pl 0 (n.places - 1) <;> cases q4:withinB pa 0 ((n.paths.length:Int) - 1) <;> rw [q3] at h24 <;> rw [q4] at h26 <;> simp only [badTr,q1,q2,q3,q4,Bool.true_and,Bool.false_and,Bool.not_true,Bool.not_false,Bool.and_true,Bool.and_false,Bool.false_eq_true,if_true,if_false]
  all_goals
   repeat (first | refine nx ?_ | (refine z3 fun K hK=>?_;simp only [go_sem,q1,q2];(repeat (first | (refine ⟨_,.lent (hf:=h24) (hd:=rfl) (hr:=rfl),?_⟩;simp only [go_sem,q1,q2]) | (refine ⟨_,.lent (hf:=h26) (hd:=rfl) (hr:=rfl),?_⟩;simp only [go_sem,q1,q2]) | (refine ⟨_,.given (hf:=h24) (hd:=rfl) (ha:=rfl),?_⟩;simp only [go_sem,q1,q2]) | (refine ⟨_,.given (hf:=h26) (hd:=rfl) (ha:=rfl),?_⟩;simp only [go_sem,q1,q2])));apply hK;clear hK K))
  all_goals first
   | refine z9 rfl ?_
   | refine z6 rfl ?_
  all_goals
   repeat (first | refine nx ?_ | (refine z3 fun K hK=>?_;simp only [go_sem];apply hK;clear hK K))
  all_goals
   simp only [go_sem]
 ·rw [if_pos ho]
  have hne:(openX n x != 0)=true:=by simpa using ho
  rw [Net.cells] at *
  rw [Missed.row] at *
  refine z10 34 Tryd.call29 Tryd.func29 rfl (by decide) fun J=>?_
  simp only [go_sem,St.start,Tryd.ntmps29,Tryd.results29,Net.cells,Missed.row]
  repeat (first | refine nx ?_ | (refine z3 fun K hK=>?_;simp only [go_sem,hne];(repeat (first | (refine ⟨_,.lent (hf:=h41) (hd:=rfl) (hr:=rfl),?_⟩;simp only [go_sem,hne]) | (refine ⟨_,.given (hf:=h41) (hd:=rfl) (ha:=rfl),?_⟩;simp only [go_sem,hne])));apply hK;clear hK K))
  refine z9 rfl ?_
  repeat (first | refine nx ?_ | (refine z3 fun K hK=>?_;simp only [go_sem];apply hK;clear hK K))
  simp only [go_sem]
end Go.Ab
namespace Go.Ab
open Go.RowKit Go.Proofs
set_option maxHeartbeats 16000000
set_option maxRecDepth 20000
attribute [local irreducible] WalkL Walk
def legAt (A:List Arv) (p m:Int):Option Arv:=A.find? fun a=>a.pl == p && a.mi == m
def backF (A:List Arv):Nat→Int→Int→Int→Int→List PassT→List PassT
 | 0,_,_,_,_,out=>out
 | f + 1,pl,mi,lv,pa,out=>match legAt A pl mi with
  | none=>out++[⟨pl,mi,lv,pa⟩]
  | some a=>if a.pa<0 then out++[⟨pl,mi,lv,pa⟩] else backF A f a.fp a.fm a.lv a.pa (out++[⟨pl,mi,lv,pa⟩])
theorem z249 (p m:Int):∀ (A:List Arv) (j i:Nat) (a:Arv),legAt A p m=some a→∃ q s,findE (entsA A j) (keyS p m) i=some (q,.agg a.leg,s)
 | [],_,_,_,h=>by simp [legAt] at h
 | b::A,j,i,a,h=>by
  rw [legAt,List.find?_cons] at h
  rw [entsA,findE]
  split at h
  ·rename_i hb
   cases h
   rw [Bool.and_eq_true,beq_iff_eq,beq_iff_eq] at hb
   rw [if_pos (by rw [z123];exact ⟨hb.1.symm,hb.2.symm⟩)]
   exact ⟨_,_,rfl⟩
  ·rename_i hb
   rw [if_neg (by rw [z123];rintro ⟨rfl,rfl⟩;simp at hb)]
   exact z249 p m A (j + 1) (i + 1) a h
theorem z452 {A:List Arv} {p m:Int} {k:Nat} (h:memA (A.take k) p m):∃ j a,j<k∧A[j]?=some a∧a.pl=p∧a.mi=m∧legAt A p m=some a:=by
 induction A generalizing k with
 | nil=>obtain ⟨a,ha,_⟩:=h;simp at ha
 | cons b A ih =>
  by_cases hb:(b.pl == p && b.mi == m)=true
  ·have hb2:=hb
   rw [Bool.and_eq_true,beq_iff_eq,beq_iff_eq] at hb2
   cases k with
   | zero=>obtain ⟨a,ha,_⟩:=h;simp at ha
   | succ k=>exact ⟨0,b,by omega,rfl,hb2.1,hb2.2,by rw [legAt,List.find?_cons,hb]⟩
  ·have hb:(b.pl == p && b.mi == m)=false:=by simpa using hb
   cases k with
   | zero=>obtain ⟨a,ha,_⟩:=h;simp at ha
   | succ k =>
    rw [List.take_succ_cons] at h
    obtain ⟨a,ha,e1,e2⟩:=h
    rcases List.mem_cons.1 ha with rfl | ha
    ·simp [e1,e2] at hb
    ·obtain ⟨j,c,h1,h2,h3,h4,h5⟩:=ih ⟨a,ha,e1,e2⟩
     exact ⟨j + 1,c,by omega,by simpa using h2,h3,h4,by rw [legAt,List.find?_cons,hb];exact h5⟩
def wantE (pl pa:Int) (e:EndT):Bool:=!((e.pa != pa) || (decide (pa<0) && (e.pl != pl)))
def traceF (n:Net) (x:Missed) (pl pa:Int):List PassT × Int :=
 if openX n x≠0 then ([],openX n x) else if badTr n pl pa then ([],1) else match (endsL n x (huntedA n x)).find? (wantE pl pa) with
  | none=>([],3)
  | some e=>((backF (huntedA n x) ((huntedA n x).length + 1) e.pl e.mi e.lv e.pa []).reverse,0)
theorem z1008 {α:Type} {q:α→Bool} {l:List α} {i:Nat} {x:α} (h:l[i]?=some x) (h0:(l.take i).find? q=none):l.find? q=if q x then some x else (l.drop (i + 1)).find? q:=by
 have e:l=l.take i++x::l.drop (i + 1):=by rw [← z57 h,List.take_append_drop]
 conv=>lhs;rw [e]
 rw [List.find?_append,h0,Option.none_or,List.find?_cons]
 cases q x <;> rfl
theorem z349 {α:Type} {q:α→Bool} {l:List α} {i:Nat} {x:α} (h:l[i]?=some x) (h0:(l.take i).find? q=none) (hx:q x=false):(l.take (i + 1)).find? q=none:=by
 rw [List.take_add_one,h,List.find?_append,h0]
 simp [hx]
theorem z982 {h:DV} {A:List Arv}:reify ((trkM h A).map some) Ab.deep (.box 0 0)=some (.ptr [h,.mp (some [.i64,.i64]) ((entsA A 0).map fun e=>(e.1,e.2.2)) ((entsA A 0).map fun e=>e.2.1) A.length,.sl (arvRows A)] 0):=rfl
theorem z1362 (n:Net) (x:Missed) (pl pa:Int) (hs:n.Small) (hl:x.clues.length<2 ^ 30):Fn Tryd.prog 28 [.agg n.cells,.agg x.row,.i pl,.i pa] (.tup [.sl (passRows (traceF n x pl pa).1),.i (traceF n x pl pa).2]):=by
 have h38:=z1335 n x hs hl
 rw [Net.cells,Missed.row] at h38
 have hpp:=hs.paths
 rw [traceF]
 by_cases hok:openX n x=0
 ·have hx:=z63 hl hok
  have hpl:=hx.net.places
  have hpt:=hx.net.paths
  rw [openD,if_pos hok,hok] at h38
  rw [if_neg (fun h=>h hok)]
  obtain ⟨A,hA⟩:∃ A,A=huntedA n x:=⟨_,rfl⟩
  have hgA:goodA n x A:=hA ▸ z50 hx
  have hLA:LegsOk n x A:=hA ▸ z202 n x
  have g39:=z1334 n x hx
  rw [← huntedA,← hA] at g39
  rw [← hA]
  have hfE:=z249
  have hb:=z982 (h:=.ptr (huntC n x) 0) (A:=A)
  have h39:=FnG.deep (args:=[.ptr (huntC n x) 0]) g39 hb
  have hit:=z1200 n x hx A (.mp (some [.i64,.i64]) ((entsA A 0).map fun e=>(e.1,e.2.2)) ((entsA A 0).map fun e=>e.2.1) A.length) hgA
  obtain ⟨ks,hks⟩:∃ k,k=(entsA A 0).map fun e=>(e.1,e.2.2):=⟨_,rfl⟩
  obtain ⟨vs,hvs⟩:∃ v,v=(entsA A 0).map fun e=>e.2.1:=⟨_,rfl⟩
  have hmk:mkE ks vs=entsA A 0:=by rw [hks,hvs];exact z1077 _
  rw [← hks,← hvs] at hit h39
  have h62:=z1273 n x.party pl (by omega)
  rw [countryC,timesD,mapD] at h62
  rw [huntC,timesD,mapD] at h38 h39 hit
  refine z10 98 Tryd.call28 Tryd.func28 rfl (by decide) fun J=>?_
  simp only [go_sem,St.start,Tryd.ntmps28,Tryd.results28,Net.cells,Missed.row]
  have h68:=z1020 pa 0 ((n.paths.length:Int) - 1)
  have hwl:IntKind.i64.wrap ((n.paths.length:Int) - 1)=(n.paths.length:Int) - 1:=z11 (by omega)
  repeat (first | refine nx ?_ | (refine z3 fun K hK=>?_;simp only [go_sem];(repeat (first | (refine ⟨_,.lent (hf:=h38) (hd:=rfl) (hr:=rfl),?_⟩;simp only [go_sem]) | (refine ⟨_,.given (hf:=h38) (hd:=rfl) (ha:=rfl),?_⟩;simp only [go_sem])));apply hK;clear hK K))
  refine z17 [(47,.d (.bool (badTr n pl pa)))] [] ?_ ?_
  ·cases q1:pa == -1 <;> cases q3:withinB pl 0 (n.places - 1) <;> cases q2:pl == -1 <;> cases q4:withinB pa 0 ((n.paths.length:Int) - 1) <;> rw [q3] at h62 <;> rw [q4] at h68
   all_goals
    refine z8 (by kernel_rfl) (by kernel_rfl) fun K hK=>?_
    simp only [go_sem,q1,q2,hwl,List.length_map]
    (repeat (first | (refine ⟨_,.fn (hf:=h62) (hd:=rfl) (hr:=.inl rfl),?_⟩;simp only [go_sem,q1,q2,hwl,List.length_map]) | (refine ⟨_,.fn (hf:=h68) (hd:=rfl) (hr:=.inl rfl),?_⟩;simp only [go_sem,q1,q2,hwl,List.length_map])))
    refine ⟨by kernel_rfl,hK _ ?_⟩
    clear hK K
    refine z7 ?_
    refine z4 ?_
    refine ⟨rfl,?_⟩
    simp only [badTr,q1,q2,q3,q4,Bool.true_and,Bool.false_and,Bool.not_true,Bool.not_false,Bool.and_true,Bool.and_false]
    simp only [go_sem]
    refine weA ?_ ?_ <;> simp
  ·simp only [go_sem]
   by_cases hbt:badTr n pl pa=true
   ·rw [if_pos hbt]
    refine z5 (b:=true) (by rw [← hbt];rfl) (fun _=>?_) (fun hc=>by cases hc)
    repeat (first | refine nx ?_ | (refine z3 fun K hK=>?_;simp only [go_sem];apply hK;clear hK K))
    refine z9 (by rfl) ?_
    repeat (first | refine nx ?_ | (refine z3 fun K hK=>?_;simp only [go_sem];apply hK;clear hK K))
    simp only [go_sem,passRows,List.map_nil]
   ·have hbt:badTr n pl pa=false:=by simpa using hbt
    rw [hbt,if_neg (by decide)]
    refine z5 (b:=false) (by rw [← hbt];rfl) (fun hc=>by cases hc) (fun _=>?_)
    repeat (first | refine nx ?_ | (refine z3 fun K hK=>?_;simp only [go_sem];apply hK;clear hK K))
    refine z6 (by rfl) ?_
    repeat (first | refine nx ?_ | (refine z3 fun K hK=>?_;simp only [go_sem];(repeat (first | (refine ⟨_,.lent (hf:=h39) (hd:=rfl) (hr:=rfl),?_⟩;simp only [go_sem]) | (refine ⟨_,.given (hf:=h39) (hd:=rfl) (ha:=rfl),?_⟩;simp only [go_sem])));apply hK;clear hK K))
    obtain ⟨E,hE⟩:∃ E,E=endsL n x A:=⟨_,rfl⟩
    rw [← hE] at hit ⊢
    refine z121 rfl hit (by intro row hr;obtain ⟨w,_,rfl⟩:=List.mem_map.1 hr;rfl) (fun _=>[]) (fun (a:Option (List PassT))=>match a with
      | none=>[(8,some (.box [.nil])),(9,some (.box [.d (.i 0)])),(84,none)]
      | some L=>[(8,some (.box [.own 84])),(9,some (.box [.d (.i 0)])),(84,some (.arr 41 4 (passRows L)))])
     (fun k' j a=>k'=some 0∧a=none∧(E.take j).find? (wantE pl pa)=none) (fun e k' a=>e=.ret∧k'=some 0∧∃ z,E.find? (wantE pl pa)=some z∧a=some (backF A (A.length + 1) z.pl z.mi z.lv z.pa []).reverse) none ?_ ⟨rfl,rfl,rfl⟩ ?_ ?_ ?_
    ·dsimp only
     simp only [go_sem]
     refine weA ?_ ?_ <;> simp
    ·rintro X0 W0 k' j a row hj ⟨rfl,rfl,hnone⟩ l1 m1
     obtain ⟨e,he,rfl⟩:∃ e,E[j]?=some e∧row=[.agg e.row]:=by
      simp only [endRows,List.getElem?_map,Option.map_eq_some_iff] at hj
      obtain ⟨e,h1,h2⟩:=hj
      exact ⟨e,h1,h2.symm⟩
     dsimp only
     have hnx:=fun h=>z349 (q:=wantE pl pa) he hnone h
     have hfd:=z1008 (q:=wantE pl pa) he hnone
     have hAl:=z117 hgA
     have hbn:=z182 hx
     simp only [go_sem,EndT.row]
     repeat (first | refine nx ?_ | (refine z3 fun K hK=>?_;simp only [go_sem];apply hK;clear hK K))
     refine z17 [(70,.d (.bool (!wantE pl pa e)))] [] ?_ ?_
     ·cases r1:e.pa != pa <;> cases r2:decide (pa<0) <;> cases r3:e.pl != pl
      all_goals
       refine z3 fun K hK=>?_
       simp only [go_sem,r1,r2,r3]
       apply hK
       clear hK K
       refine z7 ?_
       refine z4 ?_
       refine ⟨rfl,?_⟩
       simp only [wantE,r1,r2,r3,Bool.true_or,Bool.false_or,Bool.and_true,Bool.and_false,Bool.true_and,Bool.false_and,Bool.not_true,Bool.not_false]
       simp only [go_sem]
       refine weA ?_ ?_ <;> simp
     ·simp only [go_sem]
      cases hw:wantE pl pa e
      ·refine z9 (by rfl) ?_
       repeat (first | refine nx ?_ | (refine z3 fun K hK=>?_;simp only [go_sem];apply hK;clear hK K))
       refine ⟨none,?_,rfl,rfl,hnx hw⟩
       dsimp only
       simp only [go_sem]
       refine weA ?_ ?_ <;> simp
      ·refine z6 (by rfl) ?_
       rw [hw,if_pos rfl] at hfd
       have hmem:memA A e.pl e.mi:=by
        rcases z266 (hE ▸ List.mem_of_getElem? he) with ⟨_,h,_⟩ | ⟨_,_,_,_,_,_,h,_⟩
        ·exact h
        ·exact h
       repeat (first | refine nx ?_ | (refine z3 fun K hK=>?_;simp only [go_sem];apply hK;clear hK K))
       obtain ⟨L,hL⟩:∃ L,L=backF A (A.length + 1) e.pl e.mi e.lv e.pa []:=⟨_,rfl⟩
       refine z13 (fun (_:Nat × (Int × Int × Int × Int) × List PassT)=>[(14,.own 84)])
        (fun a=>[(13,some (.box [.d (.i a.2.1.1),.d (.i a.2.1.2.1),.d (.i a.2.1.2.2.2),.d (.i a.2.1.2.2.1)])),(84,some (.arr 41 4 (passRows a.2.2)))])
        (fun a=>a.2.2.length + a.1=A.length + 1∧(∃ k,k<a.1∧memA (A.take k) a.2.1.1 a.2.1.2.1)∧L=backF A a.1 a.2.1.1 a.2.1.2.1 a.2.1.2.2.1 a.2.1.2.2.2 a.2.2) (fun a=>a.1)
        (A.length + 1,(e.pl,e.mi,e.lv,e.pa),[]) ?_ ⟨by simp,⟨A.length,by dsimp only;omega,by rw [List.take_length];exact hmem⟩,hL⟩ ?_
       ·simp only [go_sem,passRows,List.map_nil]
        refine z61 [84] ?_ ?_ ?_ ?_
        ·simp [lessT,z82,AV.less]
        ·simp [lessM,lessB,lessT,z82,AV.less]
        ·first | rfl | simp [liveB,AV.refs,AV.refs.AV.refss]
        ·first | rfl | simp [liveM,liveB,AV.refs,AV.refs.AV.refss]
       ·rintro ⟨f,⟨p,m,lv,q⟩,out⟩ ⟨hlen,⟨k,hk,hm⟩,hR⟩
        dsimp only at hlen hk hm hR
        obtain ⟨i,a,hik,hia,e1,e2,hleg⟩:=z452 hm
        obtain ⟨f,rfl⟩:∃ g,f=g + 1:=⟨f - 1,by omega⟩
        rw [backF,hleg] at hR
        dsimp only at hR
        obtain ⟨u,w,hfind⟩:=z249 p m A 0 0 a hleg
        rw [← hmk,keyS,Arv.leg] at hfind
        have hr39:(passRows out).length≤549755813887:=by rw [z122];omega
        have hpush:passRows out++[[.i p,.i m,.i lv,.i q]]=passRows (out++[⟨p,m,lv,q⟩]):=by simp [passRows,PassT.row]
        simp only [go_sem]
        repeat (first | refine nx ?_ | (refine z3 fun K hK=>?_;simp only [go_sem,hr39];apply hK;clear hK K))
        refine z8 (by kernel_rfl) (by kernel_rfl) fun K hK=>?_
        simp only [go_sem,hfind]
        refine ⟨by kernel_rfl,hK _ ?_⟩
        clear hK K
        cases hneg:decide (a.pa<0)
        ·have hng:¬ a.pa<0:=of_decide_eq_false hneg
         rw [if_neg hng] at hR
         repeat (first | refine nx ?_ | (refine z3 fun K hK=>?_;simp only [go_sem,hneg];apply hK;clear hK K))
         refine z6 rfl ?_
         repeat (first | refine nx ?_ | (refine z3 fun K hK=>?_;simp only [go_sem];apply hK;clear hK K))
         have hla:=hLA i a hia
         have hmem2:memA (A.take i) a.fp a.fm:=by
          rcases hla with ⟨h,_⟩ | ⟨_,_,_,_,_,_,_,_,h,_⟩
          ·omega
          ·exact h
         refine ⟨rfl,(f,(a.fp,a.fm,a.lv,a.pa),out++[⟨p,m,lv,q⟩]),?_,⟨by simp only [List.length_append,List.length_singleton];omega,⟨i,by dsimp only;omega,hmem2⟩,hR⟩,by dsimp only;omega⟩
         simp only [go_sem,hpush]
         refine weA ?_ ?_ <;> simp
        ·have hng:a.pa<0:=of_decide_eq_true hneg
         rw [if_pos hng] at hR
         have h69:=z1351 (passRows (out++[⟨p,m,lv,q⟩])) (fun r hr=>by
          obtain ⟨z,_,rfl⟩:=List.mem_map.1 hr
          exact ⟨_,_,_,_,rfl⟩) (by simp [passRows]) (by rw [z122];simp;omega)
         have hrev:(passRows (out++[⟨p,m,lv,q⟩])).reverse=passRows L.reverse:=by rw [hR,passRows,passRows,List.map_reverse]
         rw [hrev] at h69
         repeat (first | refine nx ?_ | (refine z3 fun K hK=>?_;simp only [go_sem,hneg];apply hK;clear hK K))
         refine z9 rfl ?_
         simp only [go_sem,hpush]
         repeat (first | refine nx ?_ | (refine z3 fun K hK=>?_;simp only [go_sem];apply hK;clear hK K))
         refine z3 fun K hK=>?_
         simp only [go_sem]
         refine ⟨_,.inPlace (n:=84) (hf:=h69) (hn:=rfl) (hb:=rfl) (hla:=rfl) (ha:=z60 (by repeat (first | exact trivial | refine And.intro ?_ ?_ | exact z78 rfl | exact z52 rfl rfl))),?_⟩
         simp only [go_sem]
         apply hK
         clear hK K
         repeat (first | refine nx ?_ | (refine z3 fun K hK=>?_;simp only [go_sem];apply hK;clear hK K))
         refine ⟨rfl,some L.reverse,?_,rfl,rfl,e,hfd,by rw [hL]⟩
         dsimp only
         simp only [go_sem]
         refine weA ?_ ?_ <;> simp
    ·rintro k' a ⟨rfl,rfl,hnone⟩
     rw [endRows,List.length_map,List.take_length] at hnone
     rw [hnone]
     dsimp only
     simp only [go_sem]
     repeat (first | refine nx ?_ | (refine z3 fun K hK=>?_;simp only [go_sem];apply hK;clear hK K))
     simp only [go_sem,passRows,List.map_nil]
    ·rintro ex k' a ⟨rfl,rfl,z,hz,rfl⟩ hj
     rw [hz]
     dsimp only
     simp only [go_sem]
 ·have hne:(openX n x != 0)=true:=by simpa using hok
  have hne2:(openX n x == 0)=false:=by simpa using hok
  rw [openD,if_neg hok] at h38
  rw [if_pos hok]
  refine z10 98 Tryd.call28 Tryd.func28 rfl (by decide) fun J=>?_
  simp only [go_sem,St.start,Tryd.ntmps28,Tryd.results28,Net.cells,Missed.row]
  repeat (first | refine nx ?_ | (refine z3 fun K hK=>?_;simp only [go_sem];(repeat (first | (refine ⟨_,.lent (hf:=h38) (hd:=rfl) (hr:=rfl),?_⟩;simp only [go_sem]) | (refine ⟨_,.given (hf:=h38) (hd:=rfl) (ha:=rfl),?_⟩;simp only [go_sem])));apply hK;clear hK K))
  refine z8 (by kernel_rfl) (by kernel_rfl) fun K hK=>?_
  simp only [go_sem,hne2]
  refine ⟨by kernel_rfl,hK _ ?_⟩
  clear hK K
  refine z6 rfl ?_
  repeat (first | refine nx ?_ | (refine z3 fun K hK=>?_;simp only [go_sem,hne];apply hK;clear hK K))
  refine z9 rfl ?_
  repeat (first | refine nx ?_ | (refine z3 fun K hK=>?_;simp only [go_sem];apply hK;clear hK K))
  simp only [go_sem,passRows,List.map_nil]
end Go.Ab
namespace Go.Ab
open Go.RowKit Go.Proofs
set_option maxHeartbeats 2000000
structure Looser (n:Net) (x:Missed) (m:Net) (z:Missed):Prop where
 place:z.place=x.place
 start:z.start=x.start
 now:z.now=x.now
 rest:x.rest≤z.rest
 at0:∀ p u,atB x.clues p u=true→atB z.clues p u=true
 on:∀ u,onB8 x.clues u=true→onB8 z.clues u=true
 seen:seenF z.clues≤seenF x.clues
 path:∀ (k:Nat) (y:Path),n.paths[k]?=some y→y.grade≤x.party.grade→∃ y':Path,m.paths[k]?=some y'∧y'.frm=y.frm∧y'.to=y.to∧y'.grade≤z.party.grade∧(spanW y' z.party).lo≤(spanW y x.party).lo∧(spanW y x.party).hi≤(spanW y' z.party).hi
theorem z304 {n:Net} {x:Missed} (ho:openX n x=0):(whereC n x).1=whereP n x∧(whereC n x).2.1=whereW n x∧((whereC n x).2.2=0∨(whereC n x).2.2=3):=by
 rw [whereC,if_neg (fun h=>h ho)]
 split
 ·rename_i h;rw [h.1,h.2];exact ⟨rfl,rfl,.inr rfl⟩
 ·exact ⟨rfl,rfl,.inl rfl⟩
def hasI (l:List Int) (v:Int):Bool:=l.any fun y=>y == v
def withinQ (a b c d:List Int):Bool:=a.all (hasI c) && b.all (hasI d)
def moreX (x:Missed) (c:Clue):Missed:={ x with clues:=x.clues++[c] }
structure MoreT where
 clue:Clue
 rest:Int
 path:Int
 time:Int
def longX (x:Missed) (y:MoreT):Missed:={ x with rest:=min 10 (wr (x.rest + y.rest)) }
def longP (p:Path) (t:Int):Path:={ p with time:=⟨p.time.lo,min 600 (wr (p.time.hi + t))⟩,opens:=[] }
def longN (n:Net) (y:MoreT):Net:=if 0≤y.path∧y.path<n.paths.length then { n with paths:=n.paths.modify y.path.toNat (fun p=>longP p y.time) } else n
end Go.Ab
namespace Go.Ab
open Go.RowKit Go.Proofs
set_option maxHeartbeats 4000000
set_option maxRecDepth 20000
theorem z925 {n:Net} {x:Missed} {fp fm lv pl mi l2 q:Int} {k:Nat} {y:Path} {R:List PassT} (hy:n.paths[k]?=some y) (hf:y.frm=fp) (hg:y.grade≤x.party.grade) (ht:y.to=pl) (h1:fm≤lv) (h2:lv≤x.now) (h3:stayD x.clues fp fm lv=true) (h4:lv≤wr (fm + x.rest))
  (h5:wr (lv + (spanW y x.party).lo)≤mi) (h6:mi≤wr (lv + (spanW y x.party).hi)) (h7:mi≤x.now) (h8:stayD x.clues (-1) (wr (lv + 1)) (wr (mi - 1))=true) (hS:traceR n x (⟨pl,mi,l2,q⟩::R) pl mi=true) :
  traceR n x (⟨fp,fm,lv,k⟩::⟨pl,mi,l2,q⟩::R) fp fm=true:=by
 obtain ⟨T,hT⟩:∃ T,T=traceR n x (⟨pl,mi,l2,q⟩::R) pl mi:=⟨_,rfl⟩
 have hck:=(List.getElem?_eq_some_iff.1 hy).1
 have hpb:isPathB n (k:Int)=true:=z14.2 ⟨by omega,by omega⟩
 rw [traceR]
 dsimp only
 have hne:¬ ((k:Int)=-1):=by omega
 rw [if_neg hne,hpb,Int.toNat_natCast,hy]
 dsimp only
 rw [ht,hS,h8,h3,withinB,withinB,decide_eq_true h1,decide_eq_true h2,decide_eq_true h4,decide_eq_true h5,decide_eq_true h6,decide_eq_true h7,decide_eq_true hf,decide_eq_true hg]
 simp
theorem z1019 {n:Net} {x:Missed} (hx:Hunted n x) {A:List Arv} (hA:goodA n x A) (hL:LegsOk n x A) (f:Nat):∀ (k:Nat) (pl mi lv pa:Int) (out:List PassT),memA (A.take k) pl mi→k<f→traceR n x (⟨pl,mi,lv,pa⟩::out.reverse) pl mi=true →
  traceR n x (backF A f pl mi lv pa out).reverse x.place x.start=true∧∃ X,backF A f pl mi lv pa out=out++⟨pl,mi,lv,pa⟩::X:=by
 induction f with
 | zero=>intro k _ _ _ _ _ _ hk _;omega
 | succ f ih =>
  intro k pl mi lv pa out hm hk hS
  obtain ⟨j,a,hjk,hja,e1,e2,hleg⟩:=z452 hm
  rw [backF,hleg]
  dsimp only
  rcases hL j a hja with ⟨h1,h2,h3,_⟩ | ⟨c,y,b,h1,h2,h3,h4,h5,h6,h7,h8,h9,h10,h11⟩
  ·have hn:a.pa<0:=by omega
   rw [if_pos hn,List.reverse_append,List.reverse_singleton,List.singleton_append]
   have q1:pl=x.place:=by omega
   have q2:mi=x.start:=by omega
   refine ⟨?_,[],rfl⟩
   rw [q1,q2] at hS
   rw [q1,q2]
   exact hS
  ·have hn:¬ a.pa<0:=by omega
   rw [if_neg hn]
   obtain ⟨s1,s2,s3,s4⟩:=z240.1 h7
   obtain ⟨w1,w2,_,w4⟩:=z919.1 h10
   rw [e1] at h5
   rw [e2] at h8 h9 w1 w2 w4
   have hst:=hx.start
   have hno:=hx.now
   have hfp:0≤a.fp∧x.start≤a.fm:=by
    obtain ⟨z,hz,z1,z2⟩:=h6
    have:=hA.1 z (List.mem_of_mem_take hz)
    omega
   have g1:wr (a.lv + 1)=a.lv + 1:=z11 (by omega)
   have g2:wr (mi - 1)=mi - 1:=z11 (by omega)
   have hst8:stayD x.clues (-1) (wr (a.lv + 1)) (wr (mi - 1))=true:=by
    rw [g1,g2,z891]
    exact fun m g1 g2=>w4 m g1 (by omega)
   have hnew:=z925 (fm:=a.fm) h2 h3 h4 h5 s1 s3 ((z526 hfp.1).2 s4) s2 h8 h9 w2 hst8 hS
   rw [← h1] at hnew
   have hrev:(out++[(⟨pl,mi,lv,pa⟩:PassT)]).reverse=⟨pl,mi,lv,pa⟩::out.reverse:=by rw [List.reverse_append,List.reverse_singleton,List.singleton_append]
   rw [← hrev] at hnew
   have hjf:j<f:=Nat.lt_of_lt_of_le hjk (Nat.le_of_lt_succ hk)
   have hh:=ih j a.fp a.fm a.lv a.pa (out++[⟨pl,mi,lv,pa⟩]) h6 hjf
   rw [hnew] at hh
   obtain ⟨r1,X,r2⟩:=hh rfl
   refine ⟨r1,⟨a.fp,a.fm,a.lv,a.pa⟩::X,?_⟩
   rw [r2,List.append_assoc,List.singleton_append]
theorem z1104 {n:Net} {x:Missed} (hx:Hunted n x) {A:List Arv} (hA:goodA n x A) {e:EndT} (h:e ∈ endsL n x A):memA A e.pl e.mi∧traceR n x [⟨e.pl,e.mi,e.lv,e.pa⟩] e.pl e.mi=true∧(e.pa<0→e.pa=-1):=by
 have hst:=hx.start
 have hno:=hx.now
 obtain ⟨s,hs,he⟩:=List.mem_flatMap.1 h
 have hsp:=hA.1 s hs
 rw [endOf8] at he
 rcases List.mem_append.1 he with he | he
 ·obtain ⟨w,hw,he⟩:=List.mem_filterMap.1 he
  rw [endIn] at he
  split at he
  ·rename_i hn
   cases he
   subst hn
   obtain ⟨s1,s2,s3,s4⟩:=z240.1 hw
   refine ⟨⟨s,hs,rfl,rfl⟩,?_,fun _=>rfl⟩
   rw [traceR]
   simp only [if_true,Bool.and_eq_true,decide_eq_true_eq,z14,List.isEmpty_nil,Bool.true_and,true_and,and_true]
   exact ⟨⟨s1,Int.le_refl _⟩,(z526 hsp.1.1).2 s4⟩
  ·cases he
 ·obtain ⟨lv,hlv,he⟩:=List.mem_flatMap.1 he
  rw [endLv] at he
  split at he
  ·simp at he
  ·rename_i hc
   obtain ⟨k,hk,he⟩:=List.mem_filterMap.1 he
   rw [endOn] at he
   split at he
   ·rename_i y hy
    split at he
    ·rename_i hg
     cases he
     obtain ⟨s1,s2,s3,s4⟩:=z240.1 hlv
     have hck:=(List.getElem?_eq_some_iff.1 hy).1
     have e1:wr (lv + 1)=lv + 1:=z11 (by omega)
     have hpb:isPathB n (k:Int)=true:=z14.2 ⟨by omega,by omega⟩
     refine ⟨⟨s,hs,rfl,rfl⟩,?_,fun hh=>?_⟩
     ·rw [traceR]
      dsimp only
      rw [if_neg (by omega),hpb,Int.toNat_natCast,hy]
      dsimp only
      simp only [Bool.and_eq_true,decide_eq_true_eq,z14,Bool.true_and,true_and]
      refine ⟨⟨s1,s3⟩,(z526 hsp.1.1).2 s4,hg.2,hg.1,s2,by omega,?_⟩
      rw [e1,z891]
      intro m g1 g2
      refine z1154.2 fun c hcm hcs hce=>?_
      have:=(z1135 (cl:=x.clues) (lv:=lv) (by omega)).1 (by omega) c hcm hcs
      omega
     ·have hh:(k:Int)<0:=hh
      omega
    ·cases he
   ·cases he
def inB (A B:List Int) (pl pa:Int):Bool:=(pa == -1 && hasI A pl) || (pl == -1 && hasI B pa)
theorem z1205 {n:Net} {x:Missed} (hl:x.clues.length<2 ^ 30) (ho:openX n x=0) {pl pa:Int} (hb:badTr n pl pa=false) :
  ((endsL n x (huntedA n x)).find? (wantE pl pa)).isSome=inB (whereC n x).1 (whereC n x).2.1 pl pa:=by
 have hx:=z63 hl ho
 obtain ⟨w1,w2,_⟩:=z304 ho
 rw [w1,w2]
 have hgA:=z50 hx
 rw [badTr,Bool.and_eq_false_iff,Bool.not_eq_false',Bool.not_eq_false'] at hb
 have key:(∃ e ∈ endsL n x (huntedA n x),wantE pl pa e=true)↔inB (whereP n x) (whereW n x) pl pa=true:=by
  rw [inB,Bool.or_eq_true,Bool.and_eq_true,Bool.and_eq_true,beq_iff_eq,beq_iff_eq]
  constructor
  ·rintro ⟨e,he,hw⟩
   simp only [wantE,Bool.not_eq_true',Bool.or_eq_false_iff,bne_eq_false_iff_eq,Bool.and_eq_false_iff,decide_eq_false_iff_not] at hw
   obtain ⟨g1,g2⟩:=hw
   obtain ⟨v1,v2⟩:=z264 hx he
   rcases hb with hb | hb <;> rw [Bool.and_eq_true,beq_iff_eq,z14] at hb
   ·left
    have hep:e.pl=pl:=g2.resolve_left (by omega)
    exact ⟨hb.1,by rw [← hep];exact v1 (by omega)⟩
   ·right
    exact ⟨hb.1,by rw [← g1];exact v2 (by omega)⟩
  ·rintro (⟨rfl,h⟩ | ⟨rfl,h⟩)
   ·obtain ⟨m,h1,h2⟩:=(z918 hx).1 h
    obtain ⟨s,hs,rfl,rfl⟩:=(z110 hx).2 h1
    exact ⟨_,z1105 hs h2,by simp [wantE]⟩
   ·obtain ⟨j,y,m,lv,rfl,h1,h2,h3,h4,h5,h6⟩:=(z917 hx).1 h
    obtain ⟨s,hs,e1,e2⟩:=(z110 hx).2 h3
    rw [← e1,← e2] at h4
    refine ⟨_,z1103 hs h4 h5 h6 h1 h2 e1.symm,?_⟩
    simp only [wantE,bne_self_eq_false,Bool.false_or,Bool.not_eq_true',Bool.and_eq_false_iff,decide_eq_false_iff_not]
    left
    omega
 rw [Bool.eq_iff_iff,← key,List.find?_isSome]
theorem z1145 {n:Net} {x:Missed} (hl:x.clues.length<2 ^ 30) (ho:openX n x=0) {pl pa:Int} (hb:badTr n pl pa=false) :
  (inB (whereC n x).1 (whereC n x).2.1 pl pa=false∧traceF n x pl pa=([],3)) ∨
  (inB (whereC n x).1 (whereC n x).2.1 pl pa=true∧(traceF n x pl pa).2=0∧traceR n x (traceF n x pl pa).1 x.place x.start=true∧∃ q,(traceF n x pl pa).1.getLast?=some q∧q.pa=pa∧(pa ≥ 0∨q.pl=pl)):=by
 have hx:=z63 hl ho
 have hgA:=z50 hx
 rw [← z1205 hl ho hb,traceF,if_neg (fun h=>h ho),hb,if_neg (by decide)]
 cases hf:(endsL n x (huntedA n x)).find? (wantE pl pa) with
 | none=>exact .inl ⟨rfl,rfl⟩
 | some e =>
  right
  dsimp only
  have he:=List.mem_of_find?_eq_some hf
  have hw:=List.find?_some hf
  simp only [wantE,Bool.not_eq_true',Bool.or_eq_false_iff,bne_eq_false_iff_eq,Bool.and_eq_false_iff,decide_eq_false_iff_not] at hw
  obtain ⟨h1,h2,_⟩:=z1104 hx hgA he
  obtain ⟨r1,X,r2⟩:=z1019 hx hgA (z202 n x) ((huntedA n x).length + 1) (huntedA n x).length e.pl e.mi e.lv e.pa [] (by rw [List.take_length];exact h1) (by omega) h2
  refine ⟨rfl,rfl,r1,⟨e.pl,e.mi,e.lv,e.pa⟩,?_,hw.1,?_⟩
  ·rw [r2,List.nil_append,List.reverse_cons,List.getLast?_append];rfl
  ·rcases hw.2 with h | h
   ·exact .inl (by omega)
   ·exact .inr h
theorem z1034 {n:Net} {x:Missed} (hl:x.clues.length<2 ^ 30) (ho:openX n x=0) (pl pa:Int):(traceF n x pl pa).1.length≤40001:=by
 have hx:=z63 hl ho
 have hgA:=z50 hx
 have h1:=z117 hgA
 have h2:=z182 hx
 have key:∀ (f:Nat) (p m lv q:Int) (out:List PassT),(backF (huntedA n x) f p m lv q out).length≤out.length + f:=by
  intro f
  induction f with
  | zero=>intro p m lv q out;exact Nat.le_refl _
  | succ f ih =>
   intro p m lv q out
   rw [backF]
   split
   ·simp
   ·split
    ·simp
    ·rename_i a _ _
     have:=ih a.fp a.fm a.lv a.pa (out++[⟨p,m,lv,q⟩])
     rw [List.length_append,List.length_singleton] at this
     omega
 rw [traceF,if_neg (fun h=>h ho)]
 split
 ·simp
 ·split
  ·simp
  ·rename_i e _
   dsimp only
   rw [List.length_reverse]
   have:=key ((huntedA n x).length + 1) e.pl e.mi e.lv e.pa []
   simp only [List.length_nil] at this
   omega
end Go.Ab
namespace Go.Ab
open Go.RowKit Go.Proofs
set_option maxHeartbeats 16000000
set_option maxRecDepth 20000
attribute [local irreducible] WalkL Walk
theorem z1287 (n:Net) (x:Missed) (l:List PassT) (hs:n.Small) (hcl:x.clues.length<2 ^ 30) (ho:openX n x=0) (hl:l.length≤40001):Fn Tryd.prog 13 [.agg n.cells,.agg x.row,.sl (passRows l)] (.bool (traceR n x l x.place x.start)):=by
 have hx:=z63 hcl ho
 have hst:=hx.start
 have hno:=hx.now
 have hre:=hx.rest
 have hpr:=hx.place
 have hpl:=hx.net.places
 have hpt:=hx.net.paths
 have hrl:=z122 l
 obtain ⟨R,hR⟩:∃ R,R=traceR n x l x.place x.start:=⟨_,rfl⟩
 rw [← hR]
 have h26:=fun k=>z1336 n k (by omega)
 have h44:=z1359 n x.party
 have h45:=z1358 n x.party
 rw [Net.cells] at *
 rw [Party.cells] at *
 refine z10 173 Tryd.call13 Tryd.func13 rfl (by decide) fun J=>?_
 simp only [go_sem,St.start,Tryd.ntmps13,Tryd.results13,Net.cells,Missed.row]
 repeat (first | refine nx ?_ | (refine z3 fun K hK=>?_;simp only [go_sem];apply hK;clear hK K))
 refine z8 (by kernel_rfl) (by kernel_rfl) fun K hK=>?_
 simp only [go_sem]
 refine ⟨by kernel_rfl,hK _ ?_⟩
 clear hK K
 repeat (first | refine nx ?_ | (refine z3 fun K hK=>?_;simp only [go_sem];apply hK;clear hK K))
 refine z13 (fun (a:Nat × Int × Int)=>[(9,.d (.i a.1)),(7,.d (.i a.2.1)),(8,.d (.i a.2.2))]) (fun _=>[]) (fun a=>a.1≤l.length∧(0≤a.2.1∧a.2.1<n.places)∧(x.start≤a.2.2∧a.2.2≤x.now)∧R=traceR n x (l.drop a.1) a.2.1 a.2.2) (fun a=>l.length - a.1) (0,x.place,x.start) ?_ ⟨Nat.zero_le _,hpr,⟨Int.le_refl _,hst.2⟩,hR⟩ ?_
 ·simp only [go_sem]
  refine weA ?_ ?_ <;> simp
 ·rintro ⟨i,pl,ar⟩ ⟨hi,hpp,hpa,hRR⟩
  dsimp only at hi hpp hpa hRR
  simp only [go_sem]
  repeat (first | refine nx ?_ | (refine z3 fun K hK=>?_;simp only [go_sem,hrl];apply hK;clear hK K))
  refine z5 rfl (fun hb=>?_) (fun hb=>?_)
  ·have hlt:i<l.length:=by simpa using hb
   have hw:IntKind.i64.wrap ((i:Int) + 1)=((i + 1:Nat):Int):=by rw [z11 (by omega)];simp
   obtain ⟨q,hq⟩:∃ q,l[i]?=some q:=⟨_,List.getElem?_eq_getElem hlt⟩
   have g1:=z176 hq
   rw [z57 hq,z926] at hRR
   have hlast:((i:Int) == IntKind.i64.wrap ((l.length:Int) - 1))=(l.drop (i + 1)).isEmpty:=by
    rw [z11 (by omega)]
    by_cases h:i + 1=l.length
    ·rw [h,List.drop_length];simp;omega
    ·obtain ⟨r,hr⟩:∃ r,l[i + 1]?=some r:=⟨_,List.getElem?_eq_getElem (by omega)⟩
     rw [z57 hr];simp;omega
   repeat (first | refine nx ?_ | (refine z3 fun K hK=>?_;simp only [go_sem,g1];apply hK;clear hK K))
   have h43:withinB q.lv ar x.now=true→Fn Tryd.prog 43 [.sl (x.clues.map Clue.row),.i pl,.i ar,.i q.lv] (.bool (stayD x.clues pl ar q.lv)):=fun h=>by
    have:=z14.1 h
    exact z1285 x.clues pl ar q.lv (by omega) hcl (by omega) (by omega)
   refine z17 [(54,.d (.bool (bad1 x q pl ar)))] [] ?_ ?_
   ·refine z3 fun K hK=>?_
    simp only [go_sem]
    by_cases ho0:((q.pl != pl))=true
    ·simp only [go_sem,ho0]
     apply hK
     clear hK K
     refine z7 ?_
     refine z4 ?_
     refine ⟨rfl,?_⟩
     rw [show (bad1 x q pl ar)=(true) from by simp [bad1,ho0]]
     simp only [go_sem]
     refine weA ?_ ?_ <;> simp
    ·simp only [go_sem,ho0]
     by_cases ho1:((q.ar != ar))=true
     ·simp only [go_sem,ho0,ho1]
      apply hK
      clear hK K
      refine z7 ?_
      refine z4 ?_
      refine ⟨rfl,?_⟩
      rw [show (bad1 x q pl ar)=(true) from by simp [bad1,ho0,ho1]]
      simp only [go_sem]
      refine weA ?_ ?_ <;> simp
     ·simp only [go_sem,ho0,ho1]
      refine ⟨_,.lent (hf:=z1241 q.lv ar x.now) (hd:=rfl) (hr:=rfl),?_⟩
      simp only [go_sem,ho0,ho1]
      by_cases ho2:(!withinB q.lv ar x.now)=true
      ·simp only [go_sem,ho0,ho1,ho2]
       apply hK
       clear hK K
       refine z7 ?_
       refine z4 ?_
       refine ⟨rfl,?_⟩
       rw [show (bad1 x q pl ar)=(true) from by simp [bad1,ho0,ho1,ho2]]
       simp only [go_sem]
       refine weA ?_ ?_ <;> simp
      ·simp only [go_sem,ho0,ho1,ho2]
       refine ⟨_,.lent (hf:=h43 (by simpa using ho2)) (hd:=rfl) (hr:=rfl),?_⟩
       simp only [go_sem,ho0,ho1,ho2]
       apply hK
       clear hK K
       refine z7 ?_
       refine z4 ?_
       refine ⟨rfl,?_⟩
       rw [show (bad1 x q pl ar)=(!stayD x.clues pl ar q.lv) from by simp [bad1,ho0,ho1,ho2]]
       simp only [go_sem]
       refine weA ?_ ?_ <;> simp
   simp only [go_sem]
   by_cases hb1:bad1 x q pl ar=true
   ·rw [hb1,Bool.not_true,Bool.false_and] at hRR
    refine z5 (b:=true) (by rw [← hb1];rfl) (fun _=>?_) (fun hc=>by cases hc)
    repeat (first | refine nx ?_ | (refine z3 fun K hK=>?_;simp only [go_sem];apply hK;clear hK K))
    rw [hRR]
    simp only [go_sem]
   ·have hb1:bad1 x q pl ar=false:=by simpa using hb1
    rw [hb1,Bool.not_false,Bool.true_and] at hRR
    refine z5 (b:=false) (by rw [← hb1];rfl) (fun hc=>by cases hc) (fun _=>?_)
    simp only [bad1,Bool.or_eq_false_iff,Bool.not_eq_false'] at hb1
    obtain ⟨_,_,hwi,_⟩:=hb1
    have hwi:=z14.1 hwi
    obtain ⟨L,hL⟩:∃ L,L=l.drop (i + 1):=⟨_,rfl⟩
    rw [← hL] at hRR hlast
    by_cases hpa1:q.pa=-1
    ·rw [if_pos hpa1] at hRR
     have hd1:(q.pa == -1)=true:=by simpa using hpa1
     cases hd2:q.lv == x.now
     ·rw [hd2,Bool.false_and] at hRR
      repeat (first | refine nx ?_ | (refine z3 fun K hK=>?_;simp only [go_sem,hd1];apply hK;clear hK K))
      refine z9 rfl ?_
      repeat (first | refine nx ?_ | (refine z3 fun K hK=>?_;simp only [go_sem,hd2];apply hK;clear hK K))
      rw [hRR]
      simp only [go_sem]
     ·rw [hd2,Bool.true_and] at hRR
      repeat (first | refine nx ?_ | (refine z3 fun K hK=>?_;simp only [go_sem,hd1];apply hK;clear hK K))
      refine z9 rfl ?_
      repeat (first | refine nx ?_ | (refine z3 fun K hK=>?_;simp only [go_sem,hd2,hrl,hlast];apply hK;clear hK K))
      rw [hRR]
      simp only [go_sem]
    ·rw [if_neg hpa1] at hRR
     have hd1:(q.pa == -1)=false:=by simpa using hpa1
     cases hip:isPathB n q.pa
     ·rw [hip,Bool.false_and] at hRR
      have h26q:=h26 q.pa
      rw [isPathB] at hip
      rw [hip] at h26q
      repeat (first | refine nx ?_ | (refine z3 fun K hK=>?_;simp only [go_sem,hd1];apply hK;clear hK K))
      refine z6 rfl ?_
      repeat (first | refine nx ?_ | (refine z3 fun K hK=>?_;simp only [go_sem];(repeat (first | (refine ⟨_,.lent (hf:=h26q) (hd:=rfl) (hr:=rfl),?_⟩;simp only [go_sem]) | (refine ⟨_,.given (hf:=h26q) (hd:=rfl) (ha:=rfl),?_⟩;simp only [go_sem])));apply hK;clear hK K))
      refine z9 rfl ?_
      repeat (first | refine nx ?_ | (refine z3 fun K hK=>?_;simp only [go_sem];apply hK;clear hK K))
      rw [hRR]
      simp only [go_sem]
     ·rw [hip,Bool.true_and] at hRR
      have hip2:=z14.1 hip
      obtain ⟨qp,qa,qv,qk⟩:=q
      dsimp only at *
      obtain ⟨k,rfl⟩:∃ k:Nat,qk=k:=⟨qk.toNat,by omega⟩
      have hkl:k<n.paths.length:=by omega
      obtain ⟨y,hy⟩:∃ y,n.paths[k]?=some y:=⟨_,List.getElem?_eq_getElem hkl⟩
      rw [Int.toNat_natCast,hy] at hRR
      dsimp only at hRR
      have hyg:=hx.net.path y (List.mem_of_getElem? hy)
      obtain ⟨o1,o2,o3⟩:=z1050 hyg hx.party
      unfold okTime at o1 o2
      have gp:(n.paths.map Path.row)[k]?=some y.row:=by rw [List.getElem?_map,hy];rfl
      rw [Path.row] at gp
      have nk:¬ ((k:Int)<0):=by omega
      have hpl2:(n.paths.map Path.row).length=n.paths.length:=by simp
      have h26k:=h26 k
      have hip3:withinB (k:Int) 0 ((n.paths.length:Int) - 1)=true:=hip
      have h44k:=h44 k y hy
      repeat (first | refine nx ?_ | (refine z3 fun K hK=>?_;simp only [go_sem,hd1];apply hK;clear hK K))
      refine z6 rfl ?_
      repeat (first | refine z23 ?_ | refine z30 ?_)
      refine z17 [(103,.d (.bool (!withinB (k:Int) 0 ((n.paths.length:Int) - 1) || bad2 x ⟨qp,qa,qv,k⟩ y pl ar)))] [] ?_ ?_
      ·refine z3 fun K hK=>?_
       simp only [go_sem,gp,hkl,nk,hpl2]
       refine ⟨_,.lent (hf:=h26k) (hd:=rfl) (hr:=rfl),?_⟩
       simp only [go_sem,gp,hkl,nk,hpl2]
       by_cases ho0:(!withinB (k:Int) 0 ((n.paths.length:Int) - 1))=true
       ·simp only [go_sem,gp,hkl,nk,hpl2,ho0]
        apply hK
        clear hK K
        refine z7 ?_
        refine z4 ?_
        refine ⟨rfl,?_⟩
        rw [show (!withinB (k:Int) 0 ((n.paths.length:Int) - 1) || bad2 x ⟨qp,qa,qv,k⟩ y pl ar)=(true) from by simp [bad2,ho0]]
        simp only [go_sem]
        refine weA ?_ ?_ <;> simp
       ·simp only [go_sem,gp,hkl,nk,hpl2,ho0]
        by_cases ho1:((y.frm != pl))=true
        ·simp only [go_sem,gp,hkl,nk,hpl2,ho0,ho1]
         apply hK
         clear hK K
         refine z7 ?_
         refine z4 ?_
         refine ⟨rfl,?_⟩
         rw [show (!withinB (k:Int) 0 ((n.paths.length:Int) - 1) || bad2 x ⟨qp,qa,qv,k⟩ y pl ar)=(true) from by simp [bad2,ho0,ho1]]
         simp only [go_sem]
         refine weA ?_ ?_ <;> simp
        ·simp only [go_sem,gp,hkl,nk,hpl2,ho0,ho1]
         refine ⟨_,.lent (hf:=h44k) (hd:=rfl) (hr:=rfl),?_⟩
         simp only [go_sem,gp,hkl,nk,hpl2,ho0,ho1]
         by_cases ho2:(!decide (y.grade≤x.party.grade))=true
         ·simp only [go_sem,gp,hkl,nk,hpl2,ho0,ho1,ho2]
          apply hK
          clear hK K
          refine z7 ?_
          refine z4 ?_
          refine ⟨rfl,?_⟩
          rw [show (!withinB (k:Int) 0 ((n.paths.length:Int) - 1) || bad2 x ⟨qp,qa,qv,k⟩ y pl ar)=(true) from by simp [bad2,ho0,ho1,ho2]]
          simp only [go_sem]
          refine weA ?_ ?_ <;> simp
         ·simp only [go_sem,gp,hkl,nk,hpl2,ho0,ho1,ho2]
          apply hK
          clear hK K
          refine z7 ?_
          refine z4 ?_
          refine ⟨rfl,?_⟩
          rw [show (!withinB (k:Int) 0 ((n.paths.length:Int) - 1) || bad2 x ⟨qp,qa,qv,k⟩ y pl ar)=(decide (qv > IntKind.i64.wrap (ar + x.rest))) from by simp [bad2,ho0,ho1,ho2]]
          simp only [go_sem]
          refine weA ?_ ?_ <;> simp
      simp only [go_sem,hip3,Bool.not_true,Bool.false_or]
      by_cases hb2:bad2 x ⟨qp,qa,qv,k⟩ y pl ar=true
      ·rw [hb2,Bool.not_true,Bool.false_and] at hRR
       refine z5 (b:=true) (by rw [← hb2];rfl) (fun _=>?_) (fun hc=>by cases hc)
       repeat (first | refine nx ?_ | (refine z3 fun K hK=>?_;simp only [go_sem];apply hK;clear hK K))
       rw [hRR]
       simp only [go_sem]
      ·have hb2:bad2 x ⟨qp,qa,qv,k⟩ y pl ar=false:=by simpa using hb2
       rw [hb2,Bool.not_false,Bool.true_and] at hRR
       refine z5 (b:=false) (by rw [← hb2];rfl) (fun hc=>by cases hc) (fun _=>?_)
       have hwq:IntKind.i64.wrap (qv + 1)=wr (qv + 1):=rfl
       have hwq2:wr (qv + 1)=qv + 1:=z11 (by omega)
       cases L with
       | nil =>
        have hlast:((i:Int) == IntKind.i64.wrap ((l.length:Int) - 1))=true:=hlast
        have h43b:=z1285 x.clues (-1) (wr (qv + 1)) x.now (by decide) hcl (by omega) (by omega)
        dsimp only at hRR
        repeat (first | refine nx ?_ | (refine z3 fun K hK=>?_;simp only [go_sem,hrl,hlast];apply hK;clear hK K))
        refine z9 rfl ?_
        cases hd2:decide (qv<x.now)
        ·rw [hd2,Bool.false_and] at hRR
         repeat (first | refine nx ?_ | (refine z3 fun K hK=>?_;simp only [go_sem,hd2];apply hK;clear hK K))
         rw [hRR]
         simp only [go_sem]
        ·rw [hd2,Bool.true_and] at hRR
         repeat (first | refine nx ?_ | (refine z3 fun K hK=>?_;simp only [go_sem,hd2,hwq];(repeat (first | (refine ⟨_,.lent (hf:=h43b) (hd:=rfl) (hr:=rfl),?_⟩;simp only [go_sem,hd2,hwq]) | (refine ⟨_,.given (hf:=h43b) (hd:=rfl) (ha:=rfl),?_⟩;simp only [go_sem,hd2,hwq])));apply hK;clear hK K))
         rw [hRR]
         simp only [go_sem]
       | cons r L' =>
        have hlast:((i:Int) == IntKind.i64.wrap ((l.length:Int) - 1))=false:=hlast
        dsimp only at hRR
        obtain ⟨hr1,hr2,hr3⟩:=z230 hL.symm
        have g2:=z176 hr1
        have h45k:=h45 k y hy
        rw [Span.row] at h45k
        obtain ⟨sp,hsp⟩:∃ s,s=spanW y x.party:=⟨_,rfl⟩
        rw [← hsp] at hRR h45k o1 o2 o3
        have hw1:IntKind.i64.wrap (r.ar - 1)=wr (r.ar - 1):=rfl
        have hw2:IntKind.i64.wrap (qv + sp.lo)=wr (qv + sp.lo):=rfl
        have hw3:IntKind.i64.wrap (qv + sp.hi)=wr (qv + sp.hi):=rfl
        have e2:wr (qv + sp.lo)=qv + sp.lo:=z11 (by omega)
        have n2:¬ (((i + 1:Nat):Int)<0):=by omega
        have h43c:withinB r.ar (wr (qv + sp.lo)) (wr (qv + sp.hi))=true→¬ r.ar > x.now→Fn Tryd.prog 43 [.sl (x.clues.map Clue.row),.i (-1),.i (wr (qv + 1)),.i (wr (r.ar - 1))] (.bool (stayD x.clues (-1) (wr (qv + 1)) (wr (r.ar - 1)))):=fun h1 h2=>by
         have h3:=z14.1 h1
         have e3:wr (r.ar - 1)=r.ar - 1:=z11 (by omega)
         exact z1285 x.clues (-1) _ _ (by decide) hcl (by omega) (by omega)
        repeat (first | refine nx ?_ | (refine z3 fun K hK=>?_;simp only [go_sem,hrl,hlast];apply hK;clear hK K))
        refine z6 rfl ?_
        repeat (first | refine nx ?_ | (refine z3 fun K hK=>?_;simp only [go_sem];(repeat (first | (refine ⟨_,.lent (hf:=h45k) (hd:=rfl) (hr:=rfl),?_⟩;simp only [go_sem]) | (refine ⟨_,.given (hf:=h45k) (hd:=rfl) (ha:=rfl),?_⟩;simp only [go_sem])));apply hK;clear hK K))
        refine z8 (by kernel_rfl) (by kernel_rfl) fun K hK=>?_
        simp only [go_sem,gp,hkl,nk,hpl2,hw,g2,hr3,hrl,n2]
        refine ⟨by kernel_rfl,hK _ ?_⟩
        clear hK K
        repeat (first | refine z23 ?_ | refine z30 ?_)
        refine z17 [(172,.d (.bool (bad3 x ⟨qp,qa,qv,k⟩ r sp)))] [] ?_ ?_
        ·refine z3 fun K hK=>?_
         simp only [go_sem]
         refine ⟨_,.lent (hf:=z1241 r.ar (IntKind.i64.wrap (qv + sp.lo)) (IntKind.i64.wrap (qv + sp.hi))) (hd:=rfl) (hr:=rfl),?_⟩
         simp only [go_sem]
         by_cases ho0:(!withinB r.ar (IntKind.i64.wrap (qv + sp.lo)) (IntKind.i64.wrap (qv + sp.hi)))=true
         ·simp only [go_sem,ho0]
          apply hK
          clear hK K
          refine z7 ?_
          refine z4 ?_
          refine ⟨rfl,?_⟩
          rw [show (bad3 x ⟨qp,qa,qv,k⟩ r sp)=(true) from by simp [bad3,ho0]]
          simp only [go_sem]
          refine weA ?_ ?_ <;> simp
         ·simp only [go_sem,ho0]
          by_cases ho1:(decide (r.ar > x.now))=true
          ·simp only [go_sem,ho0,ho1]
           apply hK
           clear hK K
           refine z7 ?_
           refine z4 ?_
           refine ⟨rfl,?_⟩
           rw [show (bad3 x ⟨qp,qa,qv,k⟩ r sp)=(true) from by simp [bad3,ho0,ho1]]
           simp only [go_sem]
           refine weA ?_ ?_ <;> simp
          ·simp only [go_sem,ho0,ho1]
           refine ⟨_,.lent (hf:=h43c (by simpa using ho0) (by simpa using ho1)) (hd:=rfl) (hr:=rfl),?_⟩
           simp only [go_sem,ho0,ho1]
           apply hK
           clear hK K
           refine z7 ?_
           refine z4 ?_
           refine ⟨rfl,?_⟩
           rw [show (bad3 x ⟨qp,qa,qv,k⟩ r sp)=(!stayD x.clues (-1) (wr (qv + 1)) (wr (r.ar - 1))) from by simp [bad3,ho0,ho1]]
           simp only [go_sem]
           refine weA ?_ ?_ <;> simp
        simp only [go_sem]
        by_cases hb3:bad3 x ⟨qp,qa,qv,k⟩ r sp=true
        ·rw [hb3,Bool.not_true,Bool.false_and] at hRR
         refine z5 (b:=true) (by rw [← hb3];rfl) (fun _=>?_) (fun hc=>by cases hc)
         repeat (first | refine nx ?_ | (refine z3 fun K hK=>?_;simp only [go_sem];apply hK;clear hK K))
         rw [hRR]
         simp only [go_sem]
        ·have hb3:bad3 x ⟨qp,qa,qv,k⟩ r sp=false:=by simpa using hb3
         rw [hb3,Bool.not_false,Bool.true_and] at hRR
         refine z5 (b:=false) (by rw [← hb3];rfl) (fun hc=>by cases hc) (fun _=>?_)
         simp only [bad3,Bool.or_eq_false_iff,Bool.not_eq_false'] at hb3
         obtain ⟨hb3a,hb3b,_⟩:=hb3
         have hb3a:=z14.1 hb3a
         have hb3b:=of_decide_eq_false hb3b
         repeat (first | refine nx ?_ | (refine z3 fun K hK=>?_;simp only [go_sem,hw];apply hK;clear hK K))
         refine ⟨rfl,(i + 1,y.to,r.ar),?_,⟨hlt,hyg.to,⟨by dsimp only;omega,by dsimp only;omega⟩,by dsimp only;rw [← hL];exact hRR⟩,by dsimp only;omega⟩
         try simp only [go_sem]
         refine weA ?_ ?_ <;> simp
  ·have he:i=l.length:=by (have:¬ i<l.length:=by simpa using hb);omega
   subst he
   rw [List.drop_length,traceR] at hRR
   repeat (first | refine nx ?_ | (refine z3 fun K hK=>?_;simp only [go_sem];apply hK;clear hK K))
   rw [hRR]
   simp only [go_sem]
end Go.Ab
namespace Go.Ab
open Go.RowKit Go.Proofs
set_option maxHeartbeats 16000000
set_option maxRecDepth 20000
attribute [local irreducible] WalkL Walk
theorem z1023 {n:Net} {x:Missed} (hs:n.Small):(whereC n x).1.length<2 ^ 30∧(whereC n x).2.1.length<2 ^ 30:=by
 have hp:∀ l:List Int,(posL l).length≤l.length:=fun l=>z892 _ _
 have ht:=z133 (endsL n x (huntedA n x)) (List.replicate n.places.toNat 0,List.replicate n.paths.length 0)
 rw [← tallyE] at ht
 simp only [List.length_replicate] at ht
 have h1:=hp (tallyE n (endsL n x (huntedA n x))).1
 have h2:=hp (tallyE n (endsL n x (huntedA n x))).2
 have h3:=hs.paths
 rw [whereC]
 split
 ·exact ⟨Nat.two_pow_pos 30,Nat.two_pow_pos 30⟩
 ·rename_i ho
  have ho:openX n x=0:=Classical.not_not.1 ho
  have hk:checkPartyF n x.party=0:=by
   rw [openX] at ho
   split at ho
   ·rename_i h1;exact absurd ho h1
   ·rename_i h1;exact Classical.not_not.1 h1
  have hg:=(z127.1 hk).1.places
  split
  ·exact ⟨Nat.two_pow_pos 30,Nat.two_pow_pos 30⟩
  ·exact ⟨by dsimp only;rw [whereP];omega,by dsimp only;rw [whereW];have:=(z127.1 hk).1.paths;omega⟩
def validB (n:Net) (x:Missed):Bool:=!farX n x && openX n x == 0
def badHolds (n:Net) (x:Missed) (l:List PassT):Bool:=!validB n x || (((l.length:Int) == 0) || (decide ((l.length:Int) > 60) || !traceR n x l x.place x.start))
end Go.Ab
