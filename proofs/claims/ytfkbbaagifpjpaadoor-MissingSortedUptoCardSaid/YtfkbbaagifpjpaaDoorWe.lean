/- A walk engine over abstract states, and the contracts of the functions that the statement reaches: part 5. -/
import Derived.Test.YtfkbbaagifpjpaaDoorWd
set_option linter.unusedVariables false
set_option linter.unusedSimpArgs false
set_option linter.unnecessarySimpa false
/- A function that writes a map and makes arrays of its own: what it makes is told as a deep value. -/
namespace Go.Ab
open Go.RowKit
theorem FnG.deepMp {P:Program} {f:FuncId} {b0:Blk} {args:List AV} {r:AV} {kk:KK} {es:List (MK × DV × Nat)} {c:Nat} {rest:List Blk} {d:DV} (h:FnG P f [b0] [0] args r (.mp kk es c::rest)) (hr:reify ((.mp kk es c::rest:List Blk).map some) Ab.deep r=some d)
  (h0:∀ n ∈ r.refs,n≠0) (ha:∀ n ∈ r.refs,∃ e z rows,((.mp kk es c::rest:List Blk).map some)[n]?=some (some (.arr e z rows))):FnG P f [b0] [0] args (.d d) [.mp kk es c] :=
 ⟨h.enters,fun base w own μ0 vs h1 h2 h3 h4 h5 h6=>(h.calls base w own μ0 vs h1 h2 h3 h4 h5 h6).mono fun en w' hq=>by
  obtain ⟨v,μ1,he,hv,hm,hk,hp⟩:=hq
  obtain ⟨μ2,hμ2⟩:∃ μ2:Pl,μ2=fun i=>if i=0 then μ1 0 else none:=⟨_,rfl⟩
  have e0:μ2 0=μ1 0:=by rw [hμ2];rfl
  have hs:∀ i L,μ2 i=some L→i=0∧μ1 0=some L:=fun i L hi=>by
   rw [hμ2] at hi
   dsimp only at hi
   split at hi
   ·exact ⟨by assumption,hi⟩
   ·cases hi
  have hsub:∀ q,ownOf own μ2 q→ownOf own μ1 q:=by
   rintro q (h | ⟨i,z,l,c,h⟩)
   ·exact .inl h
   ·exact .inr ⟨0,z,l,c,(hs i _ h).2⟩
  have hg:Goes w' (ownOf own μ1) w' (ownOf own μ2):=fun q o u h1 h2=>⟨fun hc=>h1 (hsub q hc),h2⟩
  refine ⟨v,μ2,he,.d (z38 hm (ownOf own μ2) hsub (fun n=>n≠0) (fun n b z l c hn hb hc=>?_) Ab.deep r v d hv hr h0 (.inr ha)),⟨fun n b hb=>?_,fun n hn=>?_,fun n k b z l c z' l' c' q1 q2=>?_,fun n b z l c hn=>?_⟩,⟨hk.keep,fun b hb hno=>?_⟩,fun i hi=>?_⟩
  ·rcases hc with hc | ⟨i,z',l',c',hc⟩
   ·exact (hm.base n b z l c hb).2.2 hc
   ·exact hn (hm.inj n 0 b z l c z' l' c' hb (hs i _ hc).2)
  ·cases n with
   | zero =>
    have e:Blk.mp kk es c=b:=by simpa using hb
    subst e
    exact BlkRel.mapN (μ':=μ2) (n':=0) (h:=fun _=>none) (.inl hg) e0 (fun k _ j hj=>by cases hj) (fun _ _ _ _ _=>rfl) (hm.blk 0 (.mp kk es c) rfl)
   | succ n=>simp at hb
  ·obtain ⟨L,hL⟩:=Option.isSome_iff_exists.1 hn
   obtain ⟨rfl,_⟩:=hs n L hL
   exact ⟨_,rfl⟩
  ·obtain ⟨rfl,_⟩:=hs n _ q1
   obtain ⟨rfl,_⟩:=hs k _ q2
   rfl
  ·obtain ⟨rfl,h⟩:=hs n _ hn
   exact hm.base 0 b z l c h
  ·obtain ⟨p1,p2⟩:=hk.stays b hb hno
   exact ⟨p1,fun hc=>p2 (hsub b hc)⟩
  ·have:i=0:=by simpa using hi
   subst this
   rw [e0]
   exact hp 0 (by simp)⟩
end Go.Ab
namespace Go.Ab
open Go.RowKit Go.Proofs
set_option maxHeartbeats 8000000
set_option maxRecDepth 20000
attribute [local irreducible] WalkL Walk
def fullN (S:List SpotT):Nat:=2 ^ S.length - 1
def bestP (F:Mat) (S:List SpotT) (b:Nat):(Int × Int) × MemB:=bestM F S 5 b (fullN S) ([],0)
def orderP (F:Mat) (S:List SpotT) (b:Nat):List Int:=(orderM F S 5 b (fullN S) (bestP F S b).2).1
def planC (n:Net) (p:Party) (F:Mat) (base:Int) (S:List SpotT):List Int × Int × Int :=
 if readyE n p [base] S≠0 then ([],0,readyE n p [base] S) else if (bestP F S base.toNat).1.1 ≥ farW then ([],0,3) else (orderP F S base.toNat,(bestP F S base.toNat).1.1,0)
def planD (r:List Int × Int × Int):DV:=.tup [.sl (intRows r.1),.i r.2.1,.i r.2.2]
def OrdP (F:Mat) (S:List SpotT) (b:Nat):Prop:=(bestP F S b).1.1<farW→OrdOk F S 5 b (fullN S) (bestP F S b).2
theorem z851 {S:List SpotT} (h:S.length≤5):fullN S<32:=by
 have:∀ k:Nat,k≤5→2 ^ k - 1<32:=by decide
 exact this _ h
theorem z526:∀ k:Nat,k≤5→∀ i ∈ elems (2 ^ k - 1),i<k:=by decide +kernel
theorem z33:∀ s:Nat,s<32→(elems s).length≤5:=by decide +kernel
theorem z121 {n:Net} {p:Party} {bases:List Int} {S:List SpotT} (h:readyE n p bases S=0):n.Good∧p.Good∧(1≤S.length∧S.length≤8)∧(∀ s ∈ S,(0≤s.pl∧s.pl<n.places)∧(0≤s.wt∧s.wt≤100)∧(0≤s.se∧s.se≤600))∧(1≤bases.length∧bases.length≤3)∧∀ b ∈ bases,0≤b∧b<n.places:=by
 rw [readyE] at h
 split at h
 ·rename_i hc;exact absurd h hc
 ·rename_i hc
  have hc:=Classical.not_not.1 hc
  obtain ⟨g1,g2⟩:=z127.1 hc
  split at h
  ·cases h
  ·rename_i hb
   have hb:badTeams n bases S=false:=by simpa using hb
   simp only [badTeams,Bool.or_eq_false_iff,Bool.not_eq_false',z17,List.any_eq_false] at hb
   obtain ⟨h1,h2,h3,h4⟩:=hb
   refine ⟨g1,g2,by omega,fun s hs=>?_,by omega,fun b hb=>?_⟩
   ·have h5:badSpot n s=false:=by simpa using h2 s hs
    simp only [badSpot,Bool.or_eq_false_iff,Bool.not_eq_false',z17] at h5
    omega
   ·have h5:badBase n b=false:=by simpa using h4 b hb
    simp only [badBase,Bool.not_eq_false',z17] at h5
    omega
theorem z1300 (n:Net) (p:Party) (F:Mat) (base:Int) (S:List SpotT) (hs:n.Small) (hl:S.length≤5∨readyE n p [base] S≠0) (hl2:S.length<2 ^ 30) (hF:readyE n p [base] S=0→matM n.places.toNat (allM n p)=matM n.places.toNat F)
  (ho:readyE n p [base] S=0→OrdP F S base.toNat):Fn Tryd.prog 21 [.agg n.cells,.agg p.cells,.i base,.sl (S.map SpotT.row)] (planD (planC n p F base S)):=by
 have h53:=z1315 n p [base] S hs (by simp) hl2
 rw [planC,planD]
 by_cases he:readyE n p [base] S=0
 ·obtain ⟨hg,hp,hlen,hsp,_,hbase⟩:=z121 he
  have hb:=hbase base (by simp)
  have hpl:=hg.places
  have hl5:S.length≤5:=hl.resolve_right fun h=>h he
  obtain ⟨b,rfl⟩:∃ b:Nat,base=b:=⟨base.toNat,by omega⟩
  have hbm:b<n.places.toNat:=by omega
  have hS:SpotsOk n.places.toNat S:=⟨hl5,fun s hs=>by have:=(hsp s hs).1;omega⟩
  have hf32:=z851 hl5
  have hfi:∀ i ∈ elems (fullN S),i<S.length:=z526 _ hl5
  have ho':=ho he
  rw [readyD,he,if_pos rfl,rescN,rescC,hF he] at h53
  rw [if_neg (fun h=>h he)]
  rw [Int.toNat_natCast] at ho' ⊢
  have h54:=z1314 (rescC (.i n.places) (.sl (n.paths.map Path.row)) (timesD n p) n.places.toNat F S)
  have h56:=z1313 (.i n.places) (.sl (n.paths.map Path.row)) (timesD n p) n.places.toNat F S hl5
  have h55:=z1299 (.i n.places) (.sl (n.paths.map Path.row)) (timesD n p) n.places.toNat F S hS 5 (fullN S) b ([],0) hf32 (z33 _ hf32) hfi hbm
  have h57:=z1312 (.i n.places) (.sl (n.paths.map Path.row)) (timesD n p) n.places.toNat F S hS 5 (fullN S) b (bestP F S b).2 hf32 hfi hbm
  rw [orderP]
  unfold OrdP at ho'
  unfold bestP at ho' h57 ⊢
  obtain ⟨R,hR⟩:∃ R,R=bestM F S 5 b (fullN S) ([],0):=⟨_,rfl⟩
  rw [← hR] at h55 ho' h57 ⊢
  obtain ⟨⟨cost,r2⟩,es,c⟩:=R
  dsimp only at h55 ho' h57 ⊢
  rw [fullN] at h55 h57
  simp only [rescC,timesD,mapD,uD] at h53 h54 h55 h56 h57
  change FnG Tryd.prog 55 [.mp (some [.i64,.u64]) [] 0] [0] _ _ _ at h55
  refine z10 43 Tryd.call21 Tryd.func21 rfl (by decide) fun J=>?_
  simp only [go_sem,St.start,Tryd.ntmps21,Tryd.results21,Net.cells,Party.cells]
  repeat (first | refine nx ?_ | (refine z3 fun K hK=>?_;simp only [go_sem];(repeat (first | (refine ⟨_,.lent (hf:=h53) (hd:=rfl) (hr:=rfl),?_⟩;simp only [go_sem]) | (refine ⟨_,.given (hf:=h53) (hd:=rfl) (ha:=rfl),?_⟩;simp only [go_sem])));apply hK;clear hK K))
  refine z6 (by rfl) ?_
  repeat (first | refine nx ?_ | (refine z3 fun K hK=>?_;simp only [go_sem];apply hK;clear hK K))
  refine z3 fun K hK=>?_
  simp only [go_sem]
  refine ⟨_,.made (news:=[26]) (hf:=h54) (hd:=rfl) (hn:=by decide) (hl:=rfl) (hnew:=rfl) (hx:=rfl),?_⟩
  simp only [go_sem,List.map_cons,List.map_nil]
  apply hK
  clear hK K
  repeat (first | refine nx ?_ | (refine z3 fun K hK=>?_;simp only [go_sem];apply hK;clear hK K))
  refine z7 (by kernel_rfl) (by kernel_rfl) fun K hK=>?_
  simp only [go_sem]
  refine ⟨_,.fn (hf:=h56) (hd:=rfl) (hr:=.inl rfl),?_⟩
  simp only [go_sem]
  refine ⟨_,.inPlace (n:=26) (hf:=h55) (hn:=rfl) (hb:=rfl) (hla:=rfl) (ha:=z76 (by repeat (first | exact trivial | refine And.intro ?_ ?_ | exact z89 rfl | exact z59 rfl rfl))) (hx:=by first | decide | simp [AV.refsAll,AV.refs,AV.refs.AV.refss]),?_⟩
  simp only [go_sem]
  refine ⟨by kernel_rfl,hK _ ?_⟩
  clear hK K
  by_cases hc:cost ≥ farW
  ·have hd:decide (cost ≥ 1099511627776)=true:=by simpa [farW] using hc
   rw [if_pos hc]
   repeat (first | refine nx ?_ | (refine z3 fun K hK=>?_;simp only [go_sem,hd];apply hK;clear hK K))
   refine z11 rfl ?_
   repeat (first | refine nx ?_ | (refine z3 fun K hK=>?_;simp only [go_sem];apply hK;clear hK K))
   simp only [go_sem,intRows,List.map_nil]
  ·have hd:decide (cost ≥ 1099511627776)=false:=by simpa [farW] using hc
   rw [if_neg hc]
   have h57o:=h57 (by have:=ho' (by omega);rwa [fullN] at this) (by decide)
   obtain ⟨O,hO⟩:∃ O,O=orderM F S 5 b (2 ^ S.length - 1) (es,c):=⟨_,rfl⟩
   rw [fullN,← hO]
   rw [← hO] at h57o
   obtain ⟨ol,es2,c2⟩:=O
   dsimp only at h57o ⊢
   have h57d:=h57o.deepMp (d:=.sl (intRows ol)) rfl (by simp [AV.refs]) (by simp [AV.refs])
   repeat (first | refine nx ?_ | (refine z3 fun K hK=>?_;simp only [go_sem,hd];apply hK;clear hK K))
   refine z6 rfl ?_
   repeat (first | refine nx ?_ | (refine z3 fun K hK=>?_;simp only [go_sem];apply hK;clear hK K))
   refine z7 (by kernel_rfl) (by kernel_rfl) fun K hK=>?_
   simp only [go_sem]
   refine ⟨_,.fn (hf:=h56) (hd:=rfl) (hr:=.inl rfl),?_⟩
   simp only [go_sem]
   refine ⟨_,.inPlace (n:=26) (hf:=h57d) (hn:=rfl) (hb:=rfl) (hla:=rfl) (ha:=z76 (by repeat (first | exact trivial | refine And.intro ?_ ?_ | exact z89 rfl | exact z59 rfl rfl))) (hx:=by first | decide | simp [AV.refsAll,AV.refs,AV.refs.AV.refss]),?_⟩
   simp only [go_sem]
   refine ⟨by kernel_rfl,hK _ ?_⟩
   clear hK K
   repeat (first | refine nx ?_ | (refine z3 fun K hK=>?_;simp only [go_sem];apply hK;clear hK K))
   simp only [go_sem]
 ·have hne:(readyE n p [base] S != 0)=true:=by simpa using he
  rw [if_pos he]
  rw [readyD,if_neg he] at h53
  change Fn Tryd.prog 53 [_,_,.sl [[.i base]],_] _ at h53
  refine z10 43 Tryd.call21 Tryd.func21 rfl (by decide) fun J=>?_
  simp only [go_sem,St.start,Tryd.ntmps21,Tryd.results21,Net.cells,Party.cells]
  rw [Net.cells,Party.cells] at h53
  repeat (first | refine nx ?_ | (refine z3 fun K hK=>?_;simp only [go_sem];(repeat (first | (refine ⟨_,.lent (hf:=h53) (hd:=rfl) (hr:=rfl),?_⟩;simp only [go_sem]) | (refine ⟨_,.given (hf:=h53) (hd:=rfl) (ha:=rfl),?_⟩;simp only [go_sem])));apply hK;clear hK K))
  refine z5 rfl (fun _=>?_) (fun hc=>by rw [hne] at hc;cases hc)
  repeat (first | refine nx ?_ | (refine z3 fun K hK=>?_;simp only [go_sem];apply hK;clear hK K))
  simp only [go_sem,intRows,List.map_nil]
end Go.Ab
namespace Go.Ab
open Go.RowKit Go.Proofs
set_option maxHeartbeats 2000000
def pureB (F:Mat) (S:List SpotT) (rec:Nat→Nat→Int × Int) (p s:Nat) (a:Int × Int) (i:Nat):Int × Int :=
 if minW F S p i ≥ farW then a else pickB (wr (wr (minW F S p i * weightW S s) + (rec (nextP S i) (s - 2 ^ i)).1)) i a
def bestV (F:Mat) (S:List SpotT):Nat→Nat→Nat→Int × Int
 | 0,_,_=>(0,-1)
 | f + 1,p,s=>if s=0 then (0,-1) else (elems s).foldl (pureB F S (bestV F S f) p s) (farW,-1)
theorem z280 {α β:Type} {f g:β→α→β}:∀ (l:List α) (b:β),(∀ b,∀ a ∈ l,f b a=g b a)→l.foldl f b=l.foldl g b
 | [],_,_=>rfl
 | x::l,b,h=>by
  rw [List.foldl_cons,List.foldl_cons,h b x (by simp)]
  exact z280 l _ fun b a ha=>h b a (by simp [ha])
theorem z141 {F:Mat} {S:List SpotT}:∀ (f g p s:Nat),s<32→(elems s).length≤f→(elems s).length≤g→bestV F S f p s=bestV F S g p s
 | 0,g,p,s,hs,hf,_=>by
  have h0:s=0:=z118 s hs (by omega)
  subst h0
  cases g
  ·rfl
  ·rw [bestV,bestV,if_pos rfl]
 | f + 1,0,p,s,hs,_,hg=>by
  have h0:s=0:=z118 s hs (by omega)
  subst h0
  rw [bestV,bestV,if_pos rfl]
 | f + 1,g + 1,p,s,hs,hf,hg=>by
  rw [bestV,bestV]
  by_cases h0:s=0
  ·rw [if_pos h0,if_pos h0]
  ·rw [if_neg h0,if_neg h0]
   refine z280 _ _ fun b i hi=>?_
   obtain ⟨u1,u2,_⟩:=z41 hs hi
   rw [pureB,pureB,z141 f g (nextP S i) (s - 2 ^ i) u1 (by omega) (by omega)]
def SoundB (F:Mat) (S:List SpotT) (m:MemB):Prop:=∀ e ∈ m.1,e.1.2<32∧e.2.1=bestV F S 5 e.1.1 e.1.2
theorem z666 {k:Nat × Nat}:∀ {es:List EntB} {i j b:Nat} {v:Int × Int},lookB es k i=some (j,v,b)→∃ b',(k,v,b') ∈ es
 | [],_,_,_,_,h=>by simp [lookB] at h
 | e::es,i,j,b,v,h=>by
  rw [lookB] at h
  split at h
  ·rename_i hk
   cases h
   exact ⟨e.2.2,by rw [hk];simp⟩
  ·obtain ⟨b',hb⟩:=z666 h
   exact ⟨b',by simp [hb]⟩
theorem z876 {k:Nat × Nat} {w:Int × Int} {c:Nat}:∀ {es:List EntB} {e:EntB},e ∈ (putB es k w c).1→e ∈ es∨(e.1=k∧e.2.1=w)
 | [],e,h=>by
  simp [putB] at h
  subst h
  exact .inr ⟨rfl,rfl⟩
 | x::es,e,h=>by
  rw [putB] at h
  split at h
  ·rcases List.mem_cons.1 h with rfl | h
   ·exact .inr ⟨rfl,rfl⟩
   ·exact .inl (by simp [h])
  ·rcases List.mem_cons.1 h with rfl | h
   ·exact .inl (by simp)
   ·rcases z876 h with h | h
    ·exact .inl (by simp [h])
    ·exact .inr h
theorem z318 {F:Mat} {S:List SpotT} {rec:Nat→Nat→MemB→(Int × Int) × MemB} {recV:Nat→Nat→Int × Int} {p s:Nat} (hr:∀ i ∈ elems s,∀ m,SoundB F S m→(rec (nextP S i) (s - 2 ^ i) m).1=recV (nextP S i) (s - 2 ^ i)∧SoundB F S (rec (nextP S i) (s - 2 ^ i) m).2) :
  ∀ (l:List Nat) (a:(Int × Int) × MemB),(∀ i ∈ l,i ∈ elems s)→SoundB F S a.2→(l.foldl (stepB F S rec p s) a).1=l.foldl (pureB F S recV p s) a.1∧SoundB F S (l.foldl (stepB F S rec p s) a).2
 | [],a,_,h=>⟨rfl,h⟩
 | i::l,a,hl,h=>by
  obtain ⟨r1,r2⟩:=hr i (hl i (by simp)) a.2 h
  rw [List.foldl_cons,List.foldl_cons]
  have hst:(stepB F S rec p s a i).1=pureB F S recV p s a.1 i∧SoundB F S (stepB F S rec p s a i).2:=by
   rw [stepB,pureB]
   split
   ·exact ⟨rfl,h⟩
   ·exact ⟨by rw [r1],r2⟩
  obtain ⟨q1,q2⟩:=z318 hr l (stepB F S rec p s a i) (fun j hj=>hl j (by simp [hj])) hst.2
  exact ⟨by rw [q1,hst.1],q2⟩
theorem z142 {F:Mat} {S:List SpotT}:∀ (f p s:Nat) (m:MemB),s<32→(elems s).length≤f→f≤5→SoundB F S m→(bestM F S f p s m).1=bestV F S f p s∧SoundB F S (bestM F S f p s m).2
 | 0,p,s,m,_,_,_,h=>⟨rfl,h⟩
 | f + 1,p,s,m,hs,hf,h5,h=>by
  rw [bestM,bestV]
  by_cases h0:s=0
  ·rw [if_pos h0,if_pos h0];exact ⟨rfl,h⟩
  ·rw [if_neg h0,if_neg h0]
   have hfu:bestV F S (f + 1) p s=(elems s).foldl (pureB F S (bestV F S f) p s) (farW,-1):=by rw [bestV,if_neg h0]
   cases hlk:lookB m.1 (p,s) 0 with
   | some w =>
    obtain ⟨j,v,b⟩:=w
    dsimp only
    obtain ⟨b',hb⟩:=z666 hlk
    have:=(h _ hb).2
    dsimp only at this
    rw [← hfu,this]
    exact ⟨z141 _ _ _ _ hs (by have:=z33 s hs;omega) hf,h⟩
   | none =>
    dsimp only
    have hr:=z318 (F:=F) (S:=S) (rec:=bestM F S f) (recV:=bestV F S f) (p:=p) (s:=s) (fun i hi m hm=>by
     obtain ⟨u1,u2,_⟩:=z41 hs hi
     exact z142 f (nextP S i) (s - 2 ^ i) m u1 (by omega) (by omega) hm) (elems s) ((farW,-1),m) (fun i hi=>hi) h
    rw [← roundB] at hr
    refine ⟨hr.1,fun e he=>?_⟩
    rcases z876 he with he | ⟨e1,e2⟩
    ·exact hr.2 e he
    ·rw [e1,e2]
     refine ⟨hs,?_⟩
     rw [hr.1,← hfu]
     exact z141 _ _ _ _ hs hf (by have:=z33 s hs;omega)
end Go.Ab
namespace Go.Ab
open Go.RowKit Go.Proofs
set_option maxHeartbeats 2000000
inductive ChainW (n:Net) (p:Party):List Nat→Nat→Nat→Int→Prop
 | nil (a:Nat):ChainW n p [] a a 0
 | one {w:Nat × Path} (hw:w ∈ canL n p):ChainW n p [] w.2.frm.toNat w.2.to.toNat (spanW w.2 p).hi
 | app {l1 l2:List Nat} {a v b:Nat} {c d:Int} (h1:ChainW n p l1 a v c) (h2:ChainW n p l2 v b d):ChainW n p (l1++v::l2) a b (c + d)
def SoundM (n:Net) (p:Party) (F:Mat):Prop:=∀ a b,0≤F a b∧F a b≤farW∧(F a b<farW→∃ l,ChainW n p l a b (F a b))
theorem z897 (n:Net) (p:Party):SoundM n p zeroM:=fun a b=>by
 rw [zeroM]
 by_cases h:a=b
 ·subst h;rw [if_pos rfl];exact ⟨Int.le_refl _,by decide,fun _=>⟨_,.nil a⟩⟩
 ·rw [if_neg h];exact ⟨by decide,Int.le_refl _,fun hc=>absurd hc (Int.lt_irrefl _)⟩
theorem z829 {n:Net} {p:Party} {F:Mat} {w:Nat × Path} (hw:w ∈ canL n p) (h0:0≤(spanW w.2 p).hi) (h:SoundM n p F):SoundM n p (relaxM p F w):=fun a b=>by
 rw [relaxM,updM]
 split
 ·rename_i hc
  obtain ⟨h1,h2,h3⟩:=h w.2.frm.toNat w.2.to.toNat
  rw [hc.1,hc.2]
  by_cases hm:F w.2.frm.toNat w.2.to.toNat≤(spanW w.2 p).hi
  ·rw [Int.min_eq_left hm];exact ⟨h1,h2,h3⟩
  ·rw [Int.min_eq_right (by omega)];exact ⟨h0,by omega,fun _=>⟨_,.one hw⟩⟩
 ·exact h a b
theorem z869 {n:Net} {p:Party} {F:Mat} (h:SoundM n p F) (v a b:Nat):wr (F a v + F v b)=F a v + F v b:=by
 have h1:=h a v
 have h2:=h v b
 have:farW=1099511627776:=rfl
 exact z9 (by omega)
theorem z1006 {n:Net} {p:Party} {F:Mat} (h:SoundM n p F) (v x y:Nat):SoundM n p (viaM v F x y):=fun a b=>by
 rw [viaM,updM,z869 h]
 split
 ·rename_i hc
  rw [hc.1,hc.2]
  obtain ⟨h1,h2,h3⟩:=h x y
  obtain ⟨g1,g2,g3⟩:=h x v
  obtain ⟨k1,k2,k3⟩:=h v y
  by_cases hm:F x y≤F x v + F v y
  ·rw [Int.min_eq_left hm];exact ⟨h1,h2,h3⟩
  ·rw [Int.min_eq_right (by omega)]
   refine ⟨by omega,by omega,fun hl=>?_⟩
   obtain ⟨l1,c1⟩:=g3 (by omega)
   obtain ⟨l2,c2⟩:=k3 (by omega)
   exact ⟨_,.app c1 c2⟩
 ·exact h a b
theorem z1224 {n:Net} {p:Party} {F:Mat} (h:SoundM n p F) (v x y a b:Nat):viaM v F x y a b≤F a b:=by
 rw [viaM,updM,z869 h]
 split
 ·rename_i hc;rw [hc.1,hc.2];omega
 ·exact Int.le_refl _
theorem z1175 {n:Net} {p:Party} {F:Mat} (h:SoundM n p F) (v x y a:Nat):viaM v F x y a v=F a v∧viaM v F x y v a=F v a:=by
 have hv:=h v v
 rw [viaM,z869 h]
 simp only [updM]
 constructor
 ·split
  ·rename_i hc;obtain ⟨rfl,rfl⟩:=hc;omega
  ·rfl
 ·split
  ·rename_i hc;obtain ⟨rfl,rfl⟩:=hc;omega
  ·rfl
theorem z441 {n:Net} {p:Party} (v a:Nat):∀ (l:List Nat) (F:Mat),SoundM n p F→SoundM n p (l.foldl (fun F b=>viaM v F a b) F) ∧
  (∀ x y,(l.foldl (fun F b=>viaM v F a b) F) x y≤F x y)∧(∀ x,(l.foldl (fun F b=>viaM v F a b) F) x v=F x v∧(l.foldl (fun F b=>viaM v F a b) F) v x=F v x) ∧
  ∀ b ∈ l,(l.foldl (fun F b=>viaM v F a b) F) a b≤F a v + F v b
 | [],F,h=>⟨h,fun _ _=>Int.le_refl _,fun _=>⟨rfl,rfl⟩,fun b hb=>by simp at hb⟩
 | b::l,F,h=>by
  obtain ⟨s1,s2,s3,s4⟩:=z441 v a l (viaM v F a b) (z1006 h v a b)
  have hr:=z1175 h v a b
  refine ⟨s1,fun x y=>Int.le_trans (s2 x y) (z1224 h v a b x y),fun x=>⟨(s3 x).1.trans (hr x).1,(s3 x).2.trans (hr x).2⟩,fun y hy=>?_⟩
  rcases List.mem_cons.1 hy with rfl | hy
  ·refine Int.le_trans (s2 a y) ?_
   rw [viaM,updM,if_pos ⟨rfl,rfl⟩,z869 h]
   omega
  ·have:=s4 y hy
   rw [(hr a).1,(hr y).2] at this
   exact this
theorem z239 {n:Net} {p:Party} (m v:Nat):∀ (l:List Nat) (F:Mat),SoundM n p F→SoundM n p (l.foldl (stepA m v) F) ∧
  (∀ x y,(l.foldl (stepA m v) F) x y≤F x y)∧(∀ x,(l.foldl (stepA m v) F) x v=F x v∧(l.foldl (stepA m v) F) v x=F v x) ∧
  ∀ a ∈ l,∀ b,b<m→(l.foldl (stepA m v) F) a b≤F a v + F v b
 | [],F,h=>⟨h,fun _ _=>Int.le_refl _,fun _=>⟨rfl,rfl⟩,fun b hb=>by simp at hb⟩
 | a::l,F,h=>by
  obtain ⟨t1,t2,t3,t4⟩:=z441 v a (List.range m) F h
  obtain ⟨s1,s2,s3,s4⟩:=z239 m v l (stepA m v F a) t1
  refine ⟨s1,fun x y=>Int.le_trans (s2 x y) (t2 x y),fun x=>⟨(s3 x).1.trans (t3 x).1,(s3 x).2.trans (t3 x).2⟩,fun x hx b hb=>?_⟩
  rcases List.mem_cons.1 hx with rfl | hx
  ·exact Int.le_trans (s2 x b) (t4 b (List.mem_range.2 hb))
  ·have:=s4 x hx b hb
   have e1:(stepA m v F a) x v=F x v:=(t3 x).1
   have e2:(stepA m v F a) v b=F v b:=(t3 b).2
   rw [e1,e2] at this
   exact this
end Go.Ab
namespace Go.Ab
open Go.RowKit Go.Proofs
set_option maxHeartbeats 2000000
theorem z859 {n:Net} {p:Party} {L:List Nat} {a b:Nat} {c:Int} (h:ChainW n p L a b c) {k:Nat}:k ∈ L→∃ l1 l2 c1 c2,ChainW n p l1 a k c1∧ChainW n p l2 k b c2∧c1 + c2=c∧l1.length + l2.length<L.length∧∀ x,x ∈ l1∨x ∈ l2→x ∈ L:=by
 induction h with
 | nil a=>intro h;simp at h
 | one hw=>intro h;simp at h
 | @app l1 l2 a v b c d h1 h2 ih1 ih2 =>
  intro hk
  rcases List.mem_append.1 hk with hk | hk
  ·obtain ⟨m1,m2,e1,e2,g1,g2,g3,g4,g5⟩:=ih1 hk
   refine ⟨m1,m2++v::l2,e1,e2 + d,g1,.app g2 h2,by omega,by simp;omega,fun x hx=>?_⟩
   rcases hx with hx | hx
   ·exact List.mem_append.2 (.inl (g5 x (.inl hx)))
   ·rcases List.mem_append.1 hx with hx | hx
    ·exact List.mem_append.2 (.inl (g5 x (.inr hx)))
    ·exact List.mem_append.2 (.inr hx)
  ·rcases List.mem_cons.1 hk with rfl | hk
   ·exact ⟨l1,l2,c,d,h1,h2,rfl,by simp,fun x hx=>by
     rcases hx with hx | hx
     ·exact List.mem_append.2 (.inl hx)
     ·exact List.mem_append.2 (.inr (List.mem_cons.2 (.inr hx)))⟩
   ·obtain ⟨m1,m2,e1,e2,g1,g2,g3,g4,g5⟩:=ih2 hk
    refine ⟨l1++v::m1,m2,c + e1,e2,.app h1 g1,g2,by omega,by simp;omega,fun x hx=>?_⟩
    rcases hx with hx | hx
    ·rcases List.mem_append.1 hx with hx | hx
     ·exact List.mem_append.2 (.inl hx)
     ·rcases List.mem_cons.1 hx with rfl | hx
      ·exact List.mem_append.2 (.inr (by simp))
      ·exact List.mem_append.2 (.inr (List.mem_cons.2 (.inr (g5 x (.inl hx)))))
    ·exact List.mem_append.2 (.inr (List.mem_cons.2 (.inr (g5 x (.inr hx)))))
theorem z1161 {n:Net} {p:Party} (hg:n.Good) {L:List Nat} {a b:Nat} {c:Int} (h:ChainW n p L a b c):a<n.places.toNat→b<n.places.toNat∧∀ x ∈ L,x<n.places.toNat:=by
 induction h with
 | nil a=>exact fun ha=>⟨ha,fun x hx=>by simp at hx⟩
 | @one w hw =>
  intro _
  obtain ⟨_,h2,_⟩:=z124 hw
  have:=(hg.path w.2 (List.mem_of_getElem? h2)).to
  exact ⟨by omega,fun x hx=>by simp at hx⟩
 | app h1 h2 ih1 ih2 =>
  intro ha
  obtain ⟨g1,g2⟩:=ih1 ha
  obtain ⟨k1,k2⟩:=ih2 g1
  refine ⟨k1,fun x hx=>?_⟩
  rcases List.mem_append.1 hx with hx | hx
  ·exact g2 x hx
  ·rcases List.mem_cons.1 hx with rfl | hx
   ·exact g1
   ·exact k2 x hx
def Least (n:Net) (p:Party) (k:Nat) (F:Mat):Prop:=∀ (L:List Nat) (a b:Nat) (c:Int),ChainW n p L a b c→a<n.places.toNat→(∀ x ∈ L,x<k)→F a b≤c
theorem z971 {n:Net} {p:Party} (hg:n.Good) {v:Nat} {F:Mat} (hS:SoundM n p F) (hL:Least n p v F) (hv:v<n.places.toNat):Least n p (v + 1) (stepV n.places.toNat F v):=by
 obtain ⟨_,h2,h3,h4⟩:=z239 n.places.toNat v (List.range n.places.toNat) F hS
 have key:∀ (k:Nat) (L:List Nat) (a b:Nat) (c:Int),L.length≤k→ChainW n p L a b c→a<n.places.toNat→(∀ x ∈ L,x<v + 1)→stepV n.places.toNat F v a b≤c:=by
  intro k
  induction k with
  | zero =>
   intro L a b c hk hc ha hx
   have:L=[]:=List.length_eq_zero_iff.1 (by omega)
   exact Int.le_trans (h2 a b) (hL L a b c hc ha (by rw [this];intro x hx;simp at hx))
  | succ k ih =>
   intro L a b c hk hc ha hx
   by_cases hvL:v ∈ L
   ·obtain ⟨l1,l2,c1,c2,g1,g2,g3,g4,g5⟩:=z859 hc hvL
    have e1:=ih l1 a v c1 (by omega) g1 ha (fun x hh=>hx x (g5 x (.inl hh)))
    have e2:=ih l2 v b c2 (by omega) g2 hv (fun x hh=>hx x (g5 x (.inr hh)))
    have e3:=h4 a (List.mem_range.2 ha) b (z1161 hg hc ha).1
    have e4:stepV n.places.toNat F v a v=F a v:=(h3 a).1
    have e5:stepV n.places.toNat F v v b=F v b:=(h3 b).2
    have e6:stepV n.places.toNat F v a b≤F a v + F v b:=e3
    omega
   ·exact Int.le_trans (h2 a b) (hL L a b c hc ha fun x hh=>by
     have:=hx x hh
     have:x≠v:=fun e=>hvL (e ▸ hh)
     omega)
 exact fun L a b c hc ha hx=>key L.length L a b c (Nat.le_refl _) hc ha hx
theorem z873 {n:Net} {p:Party}:∀ (l:List (Nat × Path)) (F:Mat),(∀ x y,(l.foldl (relaxM p) F) x y≤F x y)∧∀ w ∈ l,(l.foldl (relaxM p) F) w.2.frm.toNat w.2.to.toNat≤(spanW w.2 p).hi
 | [],F=>⟨fun _ _=>Int.le_refl _,fun w hw=>by simp at hw⟩
 | w::l,F=>by
  obtain ⟨h1,h2⟩:=z873 (n:=n) l (relaxM p F w)
  have h3:∀ x y,relaxM p F w x y≤F x y:=fun x y=>by
   rw [relaxM,updM]
   split
   ·rename_i hc;rw [hc.1,hc.2];omega
   ·exact Int.le_refl _
  refine ⟨fun x y=>Int.le_trans (h1 x y) (h3 x y),fun u hu=>?_⟩
  rcases List.mem_cons.1 hu with rfl | hu
  ·refine Int.le_trans (h1 _ _) ?_
   rw [relaxM,updM,if_pos ⟨rfl,rfl⟩]
   omega
  ·exact h2 u hu
theorem z273 {n:Net} {p:Party} (hn:n.Good) (hp:p.Good):∀ (l:List (Nat × Path)) (F:Mat),(∀ w ∈ l,w ∈ canL n p)→SoundM n p F→SoundM n p (l.foldl (relaxM p) F)
 | [],F,_,h=>h
 | w::l,F,hl,h=>by
  have hw:=hl w (by simp)
  obtain ⟨_,h2,_⟩:=z124 hw
  have ho:=(z1025 (hn.path w.2 (List.mem_of_getElem? h2)) hp).1
  unfold okTime at ho
  exact z273 hn hp l _ (fun u hu=>hl u (by simp [hu])) (z829 hw (by omega) h)
theorem z894 {n:Net} {p:Party} (hn:n.Good) (hp:p.Good):SoundM n p (allM n p)∧Least n p n.places.toNat (allM n p):=by
 rw [z1092 n p rfl]
 obtain ⟨B,hB⟩:∃ B,B=(canL n p).foldl (relaxM p) zeroM:=⟨_,rfl⟩
 have hS:SoundM n p B:=hB ▸ z273 hn hp _ _ (fun w hw=>hw) (z897 n p)
 have hL:Least n p 0 B:=by
  intro L a b c hc ha hx
  have hLe:L=[]:=by
   cases L with
   | nil=>rfl
   | cons x L=>exact absurd (hx x (by simp)) (Nat.not_lt_zero x)
  obtain ⟨r1,r2⟩:=z873 (n:=n) (p:=p) (canL n p) zeroM
  rw [← hB] at r1 r2
  cases hc with
  | nil=>have:=r1 a a;rw [zeroM,if_pos rfl] at this;exact this
  | one hw=>exact r2 _ hw
  | app h1 h2=>simp at hLe
 rw [← hB]
 have:∀ k,k≤n.places.toNat→SoundM n p ((List.range k).foldl (stepV n.places.toNat) B)∧Least n p k ((List.range k).foldl (stepV n.places.toNat) B):=by
  intro k
  induction k with
  | zero=>exact fun _=>⟨hS,hL⟩
  | succ k ih =>
   intro hk
   obtain ⟨h1,h2⟩:=ih (by omega)
   rw [z223]
   exact ⟨(z239 n.places.toNat k (List.range n.places.toNat) _ h1).1,z971 hn h1 h2 (by omega)⟩
 exact this _ (Nat.le_refl _)
end Go.Ab
namespace Go.Ab
open Go.RowKit Go.Proofs
set_option maxHeartbeats 2000000
structure NiceB (m:Nat) (F:Mat) (S:List SpotT):Prop where
 spots:SpotsOk m S
 min:∀ p i,p<m→i<S.length→0≤minW F S p i
 wt:∀ s,s<32→(∀ i ∈ elems s,i<S.length)→0≤weightW S s∧weightW S s≤500
def valB (F:Mat) (S:List SpotT) (rec:Nat→Nat→Int × Int) (p s i:Nat):Int:=wr (wr (minW F S p i * weightW S s) + (rec (nextP S i) (s - 2 ^ i)).1)
theorem z182 {F:Mat} {S:List SpotT} {rec:Nat→Nat→Int × Int} {p s:Nat}:∀ (l:List Nat) (a:Int × Int),(l.foldl (pureB F S rec p s) a).1≤a.1∧(∀ i ∈ l,¬ minW F S p i ≥ farW→(l.foldl (pureB F S rec p s) a).1≤valB F S rec p s i) ∧
  (l.foldl (pureB F S rec p s) a=a∨∃ i ∈ l,¬ minW F S p i ≥ farW∧l.foldl (pureB F S rec p s) a=(valB F S rec p s i,(i:Int))∧valB F S rec p s i<a.1)
 | [],a=>⟨Int.le_refl _,fun i hi=>by simp at hi,.inl rfl⟩
 | i::l,a=>by
  obtain ⟨h1,h2,h3⟩:=z182 (F:=F) (S:=S) (rec:=rec) (p:=p) (s:=s) l (pureB F S rec p s a i)
  rw [List.foldl_cons]
  by_cases hf:minW F S p i ≥ farW
  ·have e:pureB F S rec p s a i=a:=by rw [pureB,if_pos hf]
   rw [e] at h1 h2 h3 ⊢
   refine ⟨h1,fun j hj hn=>?_,?_⟩
   ·rcases List.mem_cons.1 hj with rfl | hj
    ·exact absurd hf hn
    ·exact h2 j hj hn
   ·rcases h3 with h3 | ⟨j,hj,g⟩
    ·exact .inl h3
    ·exact .inr ⟨j,by simp [hj],g⟩
  ·have e:pureB F S rec p s a i=pickB (valB F S rec p s i) i a:=by rw [pureB,if_neg hf,valB]
   rw [e] at h1 h2 h3 ⊢
   by_cases hlt:valB F S rec p s i<a.1
   ·have e2:pickB (valB F S rec p s i) i a=(valB F S rec p s i,(i:Int)):=by rw [pickB,if_pos hlt]
    rw [e2] at h1 h2 h3 ⊢
    dsimp only at h1 h3
    refine ⟨by omega,fun j hj hn=>?_,.inr ?_⟩
    ·rcases List.mem_cons.1 hj with rfl | hj
     ·exact h1
     ·exact h2 j hj hn
    ·rcases h3 with h3 | ⟨j,hj,g1,g2,g3⟩
     ·exact ⟨i,by simp,hf,h3,hlt⟩
     ·exact ⟨j,by simp [hj],g1,g2,by omega⟩
   ·have e2:pickB (valB F S rec p s i) i a=a:=by rw [pickB,if_neg hlt]
    rw [e2] at h1 h2 h3 ⊢
    refine ⟨h1,fun j hj hn=>?_,?_⟩
    ·rcases List.mem_cons.1 hj with rfl | hj
     ·omega
     ·exact h2 j hj hn
    ·rcases h3 with h3 | ⟨j,hj,g⟩
     ·exact .inl h3
     ·exact .inr ⟨j,by simp [hj],g⟩
theorem z516 {m:Nat} {S:List SpotT} (h:SpotsOk m S) {i:Nat} (hi:i<S.length):nextP S i<m:=by
 have:=h.pl (spotAt S i) (List.mem_of_getElem? (z50 hi))
 rw [nextP];omega
theorem z1007 {m:Nat} {F:Mat} {S:List SpotT} (hN:NiceB m F S) {rec:Nat→Nat→Int × Int} {p s i:Nat} (hp:p<m) (hs:s<32) (hS:∀ j ∈ elems s,j<S.length) (hi:i ∈ elems s) (hf:¬ minW F S p i ≥ farW) (hr:0≤(rec (nextP S i) (s - 2 ^ i)).1∧(rec (nextP S i) (s - 2 ^ i)).1≤farW) :
  valB F S rec p s i=minW F S p i * weightW S s + (rec (nextP S i) (s - 2 ^ i)).1∧(rec (nextP S i) (s - 2 ^ i)).1≤valB F S rec p s i:=by
 have h1:=hN.min p i hp (hS i hi)
 obtain ⟨h2,h3⟩:=hN.wt s hs hS
 have hfw:farW=1099511627776:=rfl
 have h4:0≤minW F S p i * weightW S s:=Int.mul_nonneg h1 h2
 have h5:minW F S p i * weightW S s≤1099511627776 * 500:=Int.mul_le_mul (by omega) h3 h2 (by decide)
 rw [valB]
 have e1:wr (minW F S p i * weightW S s)=minW F S p i * weightW S s:=z9 (by omega)
 rw [e1]
 have e2:wr (minW F S p i * weightW S s + (rec (nextP S i) (s - 2 ^ i)).1)=minW F S p i * weightW S s + (rec (nextP S i) (s - 2 ^ i)).1:=z9 (by omega)
 rw [e2]
 exact ⟨rfl,by omega⟩
theorem z161 {m:Nat} {F:Mat} {S:List SpotT} (hN:NiceB m F S):∀ (f p s:Nat),p<m→s<32→(∀ i ∈ elems s,i<S.length)→0≤(bestV F S f p s).1∧(bestV F S f p s).1≤farW
 | 0,p,s,_,_,_=>⟨Int.le_refl _,by rw [bestV];decide⟩
 | f + 1,p,s,hp,hs,hS=>by
  rw [bestV]
  split
  ·exact ⟨Int.le_refl _,by decide⟩
  ·obtain ⟨h1,_,h3⟩:=z182 (F:=F) (S:=S) (rec:=bestV F S f) (p:=p) (s:=s) (elems s) (farW,-1)
   refine ⟨?_,h1⟩
   rcases h3 with h3 | ⟨i,hi,hf,h3,_⟩
   ·rw [h3];decide
   ·obtain ⟨u1,_,u3⟩:=z41 hs hi
    have hr:=z161 hN f (nextP S i) (s - 2 ^ i) (z516 hN.spots (hS i hi)) u1 (fun j hj=>hS j (u3 j hj))
    have:=(z1007 hN hp hs hS hi hf hr).2
    rw [h3]
    dsimp only
    omega
theorem z1169 {m:Nat} {F:Mat} {S:List SpotT} (hN:NiceB m F S):∀ (f p s:Nat) (M:MemB),p<m→s<32→(∀ i ∈ elems s,i<S.length)→(elems s).length≤f→SoundB F S M→(bestV F S 5 p s).1<farW→OrdOk F S f p s M
 | 0,p,s,M,_,hs,_,hf,_,_=>z118 s hs (by omega)
 | f + 1,p,s,M,hp,hs,hS,hf,hM,hc=>by
  by_cases h0:s=0
  ·exact .inl h0
  ·refine .inr ?_
   obtain ⟨b1,b2⟩:=z142 (F:=F) (S:=S) 5 p s M hs (z33 s hs) (Nat.le_refl _) hM
   have e5:bestV F S 5 p s=(elems s).foldl (pureB F S (bestV F S 4) p s) (farW,-1):=by rw [bestV,if_neg h0]
   obtain ⟨_,_,h3⟩:=z182 (F:=F) (S:=S) (rec:=bestV F S 4) (p:=p) (s:=s) (elems s) (farW,-1)
   rw [← e5] at h3
   rcases h3 with h3 | ⟨i,hi,hfar,h3,h4⟩
   ·rw [h3] at hc;exact absurd hc (Int.lt_irrefl _)
   ·obtain ⟨u1,u2,u3⟩:=z41 hs hi
    have hnl:=z516 hN.spots (hS i hi)
    have hr:=z161 hN 4 (nextP S i) (s - 2 ^ i) hnl u1 (fun j hj=>hS j (u3 j hj))
    have hv:=(z1007 hN hp hs hS hi hfar hr).2
    have h45:bestV F S 4 (nextP S i) (s - 2 ^ i)=bestV F S 5 (nextP S i) (s - 2 ^ i):=z141 _ _ _ _ u1 (by have:=z33 s hs;omega) (z33 _ u1)
    refine ⟨i,hi,by rw [b1,h3],z1169 hN f (nextP S i) (s - 2 ^ i) _ hnl u1 (fun j hj=>hS j (u3 j hj)) (by omega) b2 ?_⟩
    rw [h45] at hv
    dsimp only at h4
    omega
theorem z258 {S:List SpotT} (hw:∀ s ∈ S,0≤s.wt∧s.wt≤100) {s:Nat} (hs:s<32) (hS:∀ i ∈ elems s,i<S.length):0≤weightW S s∧weightW S s≤500:=by
 have key:∀ (l:List Nat) (a:Int),(∀ i ∈ l,i<S.length)→0≤a→a + 100 * l.length≤1000→a≤l.foldl (fun a i=>wr (a + (spotAt S i).wt)) a∧l.foldl (fun a i=>wr (a + (spotAt S i).wt)) a≤a + 100 * l.length:=by
  intro l
  induction l with
  | nil=>intro a _ _ _;simp
  | cons i l ih =>
   intro a hl ha hb
   have hwi:=hw (spotAt S i) (List.mem_of_getElem? (z50 (hl i (by simp))))
   rw [List.length_cons] at hb ⊢
   have e:wr (a + (spotAt S i).wt)=a + (spotAt S i).wt:=z9 (by omega)
   rw [List.foldl_cons,e]
   have:=ih (a + (spotAt S i).wt) (fun j hj=>hl j (by simp [hj])) (by omega) (by omega)
   omega
 have hl:=z33 s hs
 have:=key (elems s) 0 hS (Int.le_refl _) (by omega)
 rw [weightW]
 omega
theorem z427 {n:Net} {p:Party} {bases:List Int} {S:List SpotT} (h:readyE n p bases S=0) (hl:S.length≤5):NiceB n.places.toNat (allM n p) S:=by
 obtain ⟨hn,hp,_,hsp,_,_⟩:=z121 h
 have hA:=(z894 hn hp).1
 refine ⟨⟨hl,fun s hs=>by have:=(hsp s hs).1;omega⟩,fun q i _ hi=>?_,fun s hs hS=>z258 (fun t ht=>(hsp t ht).2.1) hs hS⟩
 have h1:=hA q (spotAt S i).pl.toNat
 have h2:=(hsp (spotAt S i) (List.mem_of_getElem? (z50 hi))).2.2
 have hfw:farW=1099511627776:=rfl
 have e:wr (allM n p q (spotAt S i).pl.toNat + (spotAt S i).se)=allM n p q (spotAt S i).pl.toNat + (spotAt S i).se:=z9 (by omega)
 rw [minW,e]
 omega
theorem z1126 {n:Net} {p:Party} {base:Int} {S:List SpotT} (h:readyE n p [base] S=0) (hl:S.length≤5):OrdP (allM n p) S base.toNat:=by
 have hN:=z427 h hl
 obtain ⟨hn,_,_,_,_,hb⟩:=z121 h
 have hb:=hb base (by simp)
 have h32:=z851 hl
 have hS:∀ i ∈ elems (fullN S),i<S.length:=z526 _ hl
 intro hc
 obtain ⟨b1,b2⟩:=z142 (F:=allM n p) (S:=S) 5 base.toNat (fullN S) ([],0) h32 (z33 _ h32) (Nat.le_refl _) (fun e he=>by simp at he)
 rw [bestP] at hc ⊢
 rw [b1] at hc
 exact z1169 hN 5 base.toNat (fullN S) _ (by omega) h32 hS (z33 _ h32) b2 hc
end Go.Ab
namespace Go.Ab
open Go.RowKit Go.Proofs
set_option maxHeartbeats 2000000
theorem z991:∀ s:Nat,s<32→∀ i:Nat,i<5→i ∈ elems s→(elems s).isPerm (i::elems (s - 2 ^ i))=true:=by decide +kernel
theorem z1159 {s i:Nat} (hs:s<32) (hi:i ∈ elems s):(elems s).Perm (i::elems (s - 2 ^ i)):=List.isPerm_iff.1 (z991 s hs i (z193 hi) hi)
def sumW (S:List SpotT) (l:List Nat):Int:=l.foldr (fun i a=>(spotAt S i).wt + a) 0
theorem z1022 {S:List SpotT} {l k:List Nat} (h:l.Perm k):sumW S l=sumW S k:=by
 induction h with
 | nil=>rfl
 | cons x _ ih=>simp only [sumW,List.foldr_cons] at ih ⊢;rw [ih]
 | swap x y l=>simp only [sumW,List.foldr_cons];omega
 | trans _ _ ih1 ih2=>rw [ih1,ih2]
theorem z414 {S:List SpotT} (hw:∀ s ∈ S,0≤s.wt∧s.wt≤100) {s:Nat} (hs:s<32) (hS:∀ i ∈ elems s,i<S.length):weightW S s=sumW S (elems s):=by
 have key:∀ (l:List Nat) (a:Int),(∀ i ∈ l,i<S.length)→0≤a→a + 100 * l.length≤1000→l.foldl (fun a i=>wr (a + (spotAt S i).wt)) a=a + sumW S l:=by
  intro l
  induction l with
  | nil=>intro a _ _ _;simp [sumW]
  | cons i l ih =>
   intro a hl ha hb
   have hwi:=hw (spotAt S i) (List.mem_of_getElem? (z50 (hl i (by simp))))
   rw [List.length_cons] at hb
   have e:wr (a + (spotAt S i).wt)=a + (spotAt S i).wt:=z9 (by omega)
   rw [List.foldl_cons,e,ih (a + (spotAt S i).wt) (fun j hj=>hl j (by simp [hj])) (by omega) (by omega)]
   simp only [sumW,List.foldr_cons]
   omega
 have hl:=z33 s hs
 have:=key (elems s) 0 hS (Int.le_refl _) (by omega)
 rw [weightW,this,Int.zero_add]
theorem z296 {S:List SpotT} (hw:∀ s ∈ S,0≤s.wt∧s.wt≤100) {s i:Nat} (hs:s<32) (hS:∀ i ∈ elems s,i<S.length) (hi:i ∈ elems s):weightW S s=(spotAt S i).wt + weightW S (s - 2 ^ i):=by
 obtain ⟨u1,_,u3⟩:=z41 hs hi
 rw [z414 hw hs hS,z414 hw u1 (fun j hj=>hS j (u3 j hj)),z1022 (z1159 hs hi)]
 rfl
structure OneB (m b:Nat) (F:Mat) (S:List SpotT):Prop where
 nice:NiceB m F S
 base:b<m
 self:F b b=0
 at0:∀ i,i<S.length→nextP S i=b
 wt:∀ s ∈ S,0≤s.wt∧s.wt≤100
 se:∀ s ∈ S,0≤s.se∧s.se≤600
theorem z1048 {m b:Nat} {F:Mat} {S:List SpotT} (h:OneB m b F S) {i:Nat} (hi:i<S.length):minW F S b i=(spotAt S i).se:=by
 have h1:=h.at0 i hi
 have h2:=h.se (spotAt S i) (List.mem_of_getElem? (z50 hi))
 rw [nextP] at h1
 rw [minW,h1,h.self,Int.zero_add]
 exact z9 (by omega)
theorem z1047 {m b:Nat} {F:Mat} {S:List SpotT} (h:OneB m b F S) {s:Nat} (hs:s<32) (hS:∀ i ∈ elems s,i<S.length) {i:Nat} (hi:i ∈ elems s) :
  ¬ minW F S b i ≥ farW∧valB F S (bestV F S 4) b s i=(spotAt S i).se * weightW S s + (bestV F S 5 b (s - 2 ^ i)).1:=by
 have hfw:farW=1099511627776:=rfl
 have hnf:¬ minW F S b i ≥ farW:=by
  have:=h.se (spotAt S i) (List.mem_of_getElem? (z50 (hS i hi)))
  rw [z1048 h (hS i hi)];omega
 obtain ⟨u1,u2,u3⟩:=z41 hs hi
 have hr:=z161 h.nice 4 (nextP S i) (s - 2 ^ i) (z516 h.nice.spots (hS i hi)) u1 (fun j hj=>hS j (u3 j hj))
 refine ⟨hnf,?_⟩
 rw [(z1007 h.nice h.base hs hS hi hnf hr).1,z1048 h (hS i hi),h.at0 i (hS i hi),z141 4 5 b (s - 2 ^ i) u1 (by have:=z33 s hs;omega) (z33 _ u1)]
theorem z1049 {m b:Nat} {F:Mat} {S:List SpotT} (h:OneB m b F S) {s:Nat} (hs:s<32) (hS:∀ i ∈ elems s,i<S.length) (h0:s≠0) {j:Nat} (hj:j ∈ elems s):(bestV F S 5 b s).1≤(spotAt S j).se * weightW S s + (bestV F S 5 b (s - 2 ^ j)).1:=by
 have e5:bestV F S 5 b s=(elems s).foldl (pureB F S (bestV F S 4) b s) (farW,-1):=by rw [bestV,if_neg h0]
 obtain ⟨_,h2,_⟩:=z182 (F:=F) (S:=S) (rec:=bestV F S 4) (p:=b) (s:=s) (elems s) (farW,-1)
 rw [← e5] at h2
 obtain ⟨v1,v2⟩:=z1047 h hs hS hj
 rw [← v2]
 exact h2 j hj v1
theorem z990 {s:Nat} (hs:s<32) (h0:s≠0):∃ j,j ∈ elems s:=by
 cases hE:elems s with
 | nil=>exact absurd (z118 s hs (by rw [hE];rfl)) h0
 | cons a l=>exact ⟨a,by simp⟩
theorem z320 {m b:Nat} {F:Mat} {S:List SpotT} (h:OneB m b F S):∀ (k s:Nat),s<32→(∀ i ∈ elems s,i<S.length)→(elems s).length≤k→(bestV F S 5 b s).1≤300000 * k
 | 0,s,hs,hS,hk=>by
  have h0:s=0:=z118 s hs (by omega)
  subst h0
  rw [bestV,if_pos rfl]
  exact Int.le_refl _
 | k + 1,s,hs,hS,hk=>by
  by_cases h0:s=0
  ·subst h0
   rw [bestV,if_pos rfl]
   show (0:Int)≤300000 * ((k + 1:Nat):Int)
   omega
  ·obtain ⟨j,hj⟩:=z990 hs h0
   obtain ⟨u1,u2,u3⟩:=z41 hs hj
   have h1:=z1049 h hs hS h0 hj
   have h2:=z320 h k (s - 2 ^ j) u1 (fun i hi=>hS i (u3 i hi)) (by omega)
   have h3:=h.se (spotAt S j) (List.mem_of_getElem? (z50 (hS j hj)))
   have h4:=z258 h.wt hs hS
   have h5:(spotAt S j).se * weightW S s≤600 * 500:=Int.mul_le_mul h3.2 h4.2 h4.1 (by decide)
   omega
theorem z511 {m b:Nat} {F:Mat} {S:List SpotT} (h:OneB m b F S) {s:Nat} (hs:s<32) (hS:∀ i ∈ elems s,i<S.length) (h0:s≠0) :
  ∃ i ∈ elems s,bestV F S 5 b s=((spotAt S i).se * weightW S s + (bestV F S 5 b (s - 2 ^ i)).1,(i:Int)):=by
 have e5:bestV F S 5 b s=(elems s).foldl (pureB F S (bestV F S 4) b s) (farW,-1):=by rw [bestV,if_neg h0]
 obtain ⟨_,_,h3⟩:=z182 (F:=F) (S:=S) (rec:=bestV F S 4) (p:=b) (s:=s) (elems s) (farW,-1)
 rw [← e5] at h3
 rcases h3 with h3 | ⟨i,hi,_,h3,_⟩
 ·exfalso
  have h1:=z320 h 5 s hs hS (z33 s hs)
  rw [h3] at h1
  exact absurd h1 (by decide)
 ·exact ⟨i,hi,by rw [h3,(z1047 h hs hS hi).2]⟩
theorem z987:((List.range 32).all fun s=>(List.range 5).all fun i=>(List.range 5).all fun k=>!(elems s).contains i || (!(elems (s - 2 ^ i)).contains k || (elems (s - 2 ^ k)).contains i))=true:=by decide +kernel
theorem z1081 (s:Nat) (hs:s<32) (i:Nat) (hi:i<5) (k:Nat) (hk:k<5) (h1:i ∈ elems s) (h2:k ∈ elems (s - 2 ^ i)):i ∈ elems (s - 2 ^ k):=by
 have h:=List.all_eq_true.1 (List.all_eq_true.1 (List.all_eq_true.1 z987 s (List.mem_range.2 hs)) i (List.mem_range.2 hi)) k (List.mem_range.2 hk)
 simp only [Bool.or_eq_true,Bool.not_eq_true',List.contains_iff_mem] at h
 rcases h with h | h | h
 ·rw [List.contains_iff_mem.2 h1] at h;cases h
 ·rw [List.contains_iff_mem.2 h2] at h;cases h
 ·exact h
theorem z1128 {m b:Nat} {F:Mat} {S:List SpotT} (h:OneB m b F S) {s i k:Nat} (hs:s<32) (hS:∀ i ∈ elems s,i<S.length) (hi:i ∈ elems s) (hi2:(bestV F S 5 b s).2=i) (hk:k ∈ elems (s - 2 ^ i)) (hk2:(bestV F S 5 b (s - 2 ^ i)).2=k) :
  (spotAt S k).wt * (spotAt S i).se≤(spotAt S i).wt * (spotAt S k).se:=by
 obtain ⟨u1,_,u3⟩:=z41 hs hi
 have hks:=u3 k hk
 obtain ⟨w1,_,w3⟩:=z41 hs hks
 have hS1:∀ j ∈ elems (s - 2 ^ i),j<S.length:=fun j hj=>hS j (u3 j hj)
 have hS2:∀ j ∈ elems (s - 2 ^ k),j<S.length:=fun j hj=>hS j (w3 j hj)
 have hik:=z1081 s hs i (z193 hi) k (z193 hk) hi hk
 have n0:s≠0:=by rintro rfl;rw [z139] at hi;simp at hi
 have n1:s - 2 ^ i≠0:=by intro e;rw [e,z139] at hk;simp at hk
 have n2:s - 2 ^ k≠0:=by intro e;rw [e,z139] at hik;simp at hik
 obtain ⟨i',hi',e1⟩:=z511 h hs hS n0
 obtain ⟨k',hk',e2⟩:=z511 h u1 hS1 n1
 have hii:i'=i:=by
  rw [e1] at hi2
  have:(i':Int)=i:=hi2
  omega
 have hkk:k'=k:=by
  rw [e2] at hk2
  have:(k':Int)=k:=hk2
  omega
 subst hii
 subst hkk
 have l1:=z1049 h hs hS n0 hks
 have l2:=z1049 h w1 hS2 n2 hik
 have q1:=z296 h.wt hs hS hi
 have q2:=z296 h.wt hs hS hks
 rw [e1] at l1
 dsimp only at l1
 rw [e2] at l1
 dsimp only at l1
 have hcomm:s - 2 ^ k' - 2 ^ i'=s - 2 ^ i' - 2 ^ k':=by omega
 rw [hcomm] at l2
 obtain ⟨V,hV⟩:∃ V,V=(bestV F S 5 b (s - 2 ^ i' - 2 ^ k')).1:=⟨_,rfl⟩
 rw [← hV] at l1 l2
 have r1:weightW S (s - 2 ^ i')=weightW S s - (spotAt S i').wt:=by omega
 have r2:weightW S (s - 2 ^ k')=weightW S s - (spotAt S k').wt:=by omega
 rw [r1,Int.mul_sub] at l1
 rw [r2,Int.mul_sub] at l2
 rw [Int.mul_comm (spotAt S k').wt,Int.mul_comm (spotAt S i').wt]
 omega
theorem z430 {m b:Nat} {F:Mat} {S:List SpotT} (h:OneB m b F S):∀ (f s:Nat) (M:MemB),s<32→(∀ i ∈ elems s,i<S.length)→(elems s).length≤f→SoundB F S M →
  (orderM F S f b s M).1.length=(elems s).length∧(∀ x ∈ (orderM F S f b s M).1,∃ i:Nat,x=(i:Int)∧i ∈ elems s)∧(s≠0→(orderM F S f b s M).1[0]?=some (bestV F S 5 b s).2) ∧
  ∀ (j i k:Nat),(orderM F S f b s M).1[j]?=some (i:Int)→(orderM F S f b s M).1[j + 1]?=some (k:Int)→(spotAt S k).wt * (spotAt S i).se≤(spotAt S i).wt * (spotAt S k).se
 | 0,s,M,hs,hS,hf,hM=>by
  have h0:s=0:=z118 s hs (by omega)
  subst h0
  exact ⟨rfl,fun x hx=>by simp [orderM] at hx,fun hn=>absurd rfl hn,fun j i k hj=>by simp [orderM] at hj⟩
 | f + 1,s,M,hs,hS,hf,hM=>by
  by_cases h0:s=0
  ·subst h0
   rw [z879]
   exact ⟨rfl,fun x hx=>by simp at hx,fun hn=>absurd rfl hn,fun j i k hj=>by simp at hj⟩
  ·obtain ⟨b1,b2⟩:=z142 (F:=F) (S:=S) 5 b s M hs (z33 s hs) (Nat.le_refl _) hM
   obtain ⟨i0,hi0,e1⟩:=z511 h hs hS h0
   have e2:(bestM F S 5 b s M).1.2=(i0:Int):=by rw [b1,e1]
   have e3:(bestV F S 5 b s).2=(i0:Int):=by rw [e1]
   obtain ⟨u1,u2,u3⟩:=z41 hs hi0
   have hS1:∀ j ∈ elems (s - 2 ^ i0),j<S.length:=fun j hj=>hS j (u3 j hj)
   obtain ⟨r1,r2,r3,r4⟩:=z430 h f (s - 2 ^ i0) (bestM F S 5 b s M).2 u1 hS1 (by omega) b2
   rw [orderM,if_neg h0,e2,Int.toNat_natCast,h.at0 i0 (hS i0 hi0)]
   dsimp only
   refine ⟨by rw [List.length_cons,r1,u2],fun x hx=>?_,fun _=>by rw [e3];rfl,fun j i k hj hk=>?_⟩
   ·rcases List.mem_cons.1 hx with rfl | hx
    ·exact ⟨i0,rfl,hi0⟩
    ·obtain ⟨i,hi,hie⟩:=r2 x hx
     exact ⟨i,hi,u3 i hie⟩
   ·cases j with
    | zero =>
     simp only [List.getElem?_cons_zero,Option.some.injEq] at hj
     have hji:i0=i:=by omega
     subst hji
     rw [List.getElem?_cons_succ] at hk
     have hkm:=List.mem_of_getElem? hk
     obtain ⟨k',hkk,hke⟩:=r2 _ hkm
     have hkk:k=k':=by omega
     subst hkk
     have hn:s - 2 ^ i0≠0:=by intro e;rw [e,z139] at hke;simp at hke
     have h5:=r3 hn
     rw [h5] at hk
     exact z1128 h hs hS hi0 e3 hke (Option.some.inj hk)
    | succ j =>
     rw [List.getElem?_cons_succ] at hj hk
     exact r4 j i k hj hk
end Go.Ab
namespace Go.Ab
open Go.RowKit Go.Proofs
set_option maxRecDepth 100000
def getL (W:List (List Int)) (a b:Nat):Int:=(W.getD a []).getD b 0
def setLL (W:List (List Int)) (a b:Nat) (v:Int):List (List Int):=W.set a ((W.getD a []).set b v)
def relaxLL (p:Party) (W:List (List Int)) (w:Nat × Path):List (List Int):=setLL W w.2.frm.toNat w.2.to.toNat (min (getL W w.2.frm.toNat w.2.to.toNat) (spanW w.2 p).hi)
def viaLL (v:Nat) (W:List (List Int)) (a b:Nat):List (List Int):=setLL W a b (min (getL W a b) (wr (getL W a v + getL W v b)))
def allLL (n:Net) (p:Party):List (List Int) :=
 let m:=n.places.toNat
 (List.range m).foldl (fun F v=>(List.range m).foldl (fun F a=>(List.range m).foldl (fun F b=>viaLL v F a b) F) F) ((canL n p).foldl (relaxLL p) (matM m zeroM))
theorem z288 {m:Nat} {F:Mat} {a b:Nat} (ha:a<m) (hb:b<m):getL (matM m F) a b=F a b:=by
 simp only [getL,List.getD_eq_getElem?_getD,z98 ha,Option.getD_some,z87 hb]
theorem z641 {m:Nat} {F:Mat} {a b:Nat} (ha:a<m) (v:Int):setLL (matM m F) a b v=matM m (updM F a b v):=by
 simp only [setLL,List.getD_eq_getElem?_getD,z98 ha,Option.getD_some,z517]
theorem z1036 {m:Nat} {p:Party} {F:Mat} {w:Nat × Path} (ha:w.2.frm.toNat<m) (hb:w.2.to.toNat<m):relaxLL p (matM m F) w=matM m (relaxM p F w):=by
 rw [relaxLL,z288 ha hb,z641 ha,relaxM]
theorem z1176 {m v a b:Nat} {F:Mat} (hv:v<m) (ha:a<m) (hb:b<m):viaLL v (matM m F) a b=matM m (viaM v F a b):=by
 rw [viaLL,z288 ha hb,z288 ha hv,z288 hv hb,z641 ha,viaM]
theorem z224 {α:Type} {m:Nat} (f:List (List Int)→α→List (List Int)) (g:Mat→α→Mat):∀ (l:List α) (F:Mat),(∀ F,∀ x ∈ l,f (matM m F) x=matM m (g F x))→l.foldl f (matM m F)=matM m (l.foldl g F)
 | [],F,_=>rfl
 | x::l,F,h=>by
  rw [List.foldl_cons,h F x (by simp),List.foldl_cons]
  exact z224 f g l _ fun F y hy=>h F y (by simp [hy])
theorem z1209 {n:Net} (p:Party) (hg:n.Good):allLL n p=matM n.places.toNat (allM n p):=by
 rw [allLL,allM]
 rw [z224 (relaxLL p) (relaxM p) _ _ (fun F w hw=>by
  obtain ⟨_,h2,_⟩:=z124 hw
  have:=hg.path w.2 (List.mem_of_getElem? h2)
  exact z1036 (by have:=this.frm;omega) (by have:=this.to;omega))]
 refine z224 _ _ _ _ fun F v hv=>?_
 refine z224 _ _ _ _ fun F a ha=>?_
 refine z224 _ _ _ _ fun F b hb=>?_
 exact z1176 (List.mem_range.1 hv) (List.mem_range.1 ha) (List.mem_range.1 hb)
def exM:Missed:=⟨exP,0,300,600,30,[⟨420,2,true⟩,⟨500,4,false⟩,⟨560,9,true⟩]⟩
end Go.Ab
namespace Go.Ab
open Go.RowKit Go.Proofs
set_option maxHeartbeats 8000000
set_option maxRecDepth 20000
attribute [local irreducible] WalkL Walk
def exSpots:List (List DV):=[[.i 3,.i 50,.i 60],[.i 1,.i 30,.i 20],[.i 2,.i 20,.i 40]]
theorem z1319:Fn Tryd.prog 46 [] (.tup [.agg exN.cells,.agg exM.row,.sl exSpots]):=by
 have h49:=z1308
 refine z10 20 Tryd.call46 Tryd.func46 rfl (by decide) fun J=>?_
 simp only [go_sem,St.start,Tryd.ntmps46,Tryd.results46,]
 repeat (first | refine nx ?_ | (refine z3 fun K hK=>?_;simp only [go_sem,exN,exP,Net.cells,Party.cells,Path.row,Span.row];(repeat (first | (refine ⟨_,.lent (hf:=h49) (hd:=rfl) (hr:=rfl),?_⟩;simp only [go_sem,exN,exP,Net.cells,Party.cells,Path.row,Span.row]) | (refine ⟨_,.given (hf:=h49) (hd:=rfl) (ha:=rfl),?_⟩;simp only [go_sem,exN,exP,Net.cells,Party.cells,Path.row,Span.row])));apply hK;clear hK K))
 refine z7 (by kernel_rfl) (by kernel_rfl) fun K hK=>?_
 simp only [go_sem,exN,exP,Net.cells,Party.cells,Path.row,Span.row]
 refine ⟨by kernel_rfl,hK _ ?_⟩
 clear hK K
 repeat (first | refine nx ?_ | (refine z3 fun K hK=>?_;simp only [go_sem];apply hK;clear hK K))
 simp only [go_sem]
 rfl
end Go.Ab
namespace Go.Ab
open Go.RowKit Go.Proofs
set_option maxHeartbeats 4000000
set_option maxRecDepth 20000
attribute [local irreducible] WalkL Walk
def staysF (cl:List Clue) (place top:Int):Nat→Int→List Int
 | 0,_=>[]
 | f + 1,m=>if m≤top∧atB cl place m=true then m::staysF cl place top f (m + 1) else []
def staysL (x:Missed) (place m most:Int):List Int:=staysF x.clues place (min most x.now) (min most x.now - m + 1).toNat m
theorem z338 {α:Type} {l:List α} {j:Nat} {x:α} {r:List α} (h:l.drop j=x::r):l[j]?=some x∧l.drop (j + 1)=r∧j<l.length:=by
 have h1:l[j]?=some x:=by
  have:=congrArg (fun l=>l[0]?) h
  simpa using this
 refine ⟨h1,?_,(List.getElem?_eq_some_iff.1 h1).1⟩
 have:=congrArg (List.drop 1) h
 simpa [Nat.add_comm] using this
theorem z140 {α:Type} {l:List α} {j:Nat} (h:l.drop j=[]) (hj:j≤l.length):j=l.length:=by
 have:=List.drop_eq_nil_iff.1 h
 omega
def minRows (l:List Int):List (List DV):=l.map fun m=>[.i m]
theorem z321 {l:List Int} {j:Nat} {m:Int} (h:l[j]?=some m):(minRows l)[j]?=some [.i m]:=by simp [minRows,h]
def trkB (n:Net) (x:Missed):List DV:=[.ptr (huntC n x) 0]
theorem z1199 (n:Net) (x:Missed) (place m0 most:Int) (hp:0≤place) (hm:0≤m0∧m0≤2 ^ 40) (hn:x.now≤2 ^ 40) (hl:x.clues.length<2 ^ 62) :
  IterB Tryd.prog 102 (fun b=>[.ptr [.i place,.i m0] 0,.ptr [.i most] 0,.ptr [.raw b 0] 0]) ((trkB n x).map some) (minRows (staysL x place m0 most)):=by
 refine z438 40 Tryd.call102 Tryd.func102 rfl rfl fun l J B pb hS hG hP=>?_
 simp only [go_sem,St.start,Tryd.ntmps102]
 repeat (first | refine nx ?_ | (refine z3 fun K hK=>?_;simp only [go_sem];apply hK;clear hK K))
 obtain ⟨L,hL⟩:∃ L,L=staysL x place m0 most:=⟨_,rfl⟩
 obtain ⟨top,htop⟩:∃ top,top=min most x.now:=⟨_,rfl⟩
 rw [← hL]
 have hL0:L=staysF x.clues place top (top - m0 + 1).toNat m0:=by rw [hL,staysL,htop]
 refine z62 (fun (j:Nat)=>[(5,.d (.i (m0 + j)))]) (fun _=>[]) (fun k j=>k=some j∧j≤L.length∧L.drop j=staysF x.clues place top ((top - m0 + 1).toNat - j) (m0 + j)) (fun j=>(top - m0 + 1).toNat + 1 - j) 0 ?_ ⟨rfl,Nat.zero_le _,by simpa using hL0⟩ ?_
 ·simp only [go_sem]
  refine weA ?_ ?_ <;> simp
 ·rintro k j ⟨rfl,hj,hd⟩
  simp only [go_sem]
  have hc9:(huntC n x)[9]?=some (.i x.now):=rfl
  repeat refine nx ?_
  have h74:=z1174 n x place (m0 + j) hp hl
  by_cases h1:m0 + (j:Int)≤min most x.now
  ·have hb1:decide (m0 + (j:Int)≤min most x.now)=true:=by simpa using h1
   have hf1:(top - m0 + 1).toNat - j=((top - m0 + 1).toNat - (j + 1)) + 1:=by omega
   have hw:IntKind.i64.wrap (m0 + (j:Int) + 1)=m0 + ((j + 1:Nat):Int):=by rw [z9 (by omega)];omega
   rw [hf1,staysF] at hd
   by_cases h2:atB x.clues place (m0 + j)=true
   ·rw [if_pos ⟨by omega,h2⟩] at hd
    obtain ⟨hg,hd2,hlt⟩:=z338 hd
    refine z169 hS hG hP 25 (by kernel_rfl) (by kernel_rfl) (by kernel_rfl) (by decide) rfl fun K hK=>?_
    simp only [go_sem,trkB,hc9,hb1]
    refine ⟨_,.fn (hf:=h74) (hd:=rfl) (hr:=.inl rfl),?_⟩
    simp only [go_sem,hb1,h2]
    refine ⟨by kernel_rfl,?_⟩
    refine ⟨rfl,j,[.i (m0 + j)],rfl,rfl,by rw [← hL];exact z321 hg,?_,?_⟩
    ·simp only [go_sem]
     refine hK _ _ ?_
     clear hK K
     refine z11 rfl ?_
     repeat (first | refine nx ?_ | (refine z3 fun K hK=>?_;simp only [go_sem,hw];apply hK;clear hK K))
     refine ⟨j + 1,?_,⟨rfl,hlt,by rw [hd2];congr 1;omega⟩,by omega⟩
     refine weA ?_ ?_ <;> simp
    ·simp only [go_sem]
     refine hK _ _ ?_
     clear hK K
     refine z6 rfl ?_
     repeat (first | refine nx ?_ | (refine z3 fun K hK=>?_;simp only [go_sem];apply hK;clear hK K))
     exact ⟨trivial,.inr rfl⟩
   ·rw [if_neg (fun hc=>h2 hc.2)] at hd
    have h2:atB x.clues place (m0 + j)=false:=by simpa using h2
    have he:=z140 hd hj
    refine z169 hS hG hP 25 (by kernel_rfl) (by kernel_rfl) (by kernel_rfl) (by decide) rfl fun K hK=>?_
    simp only [go_sem,trkB,hc9,hb1]
    refine ⟨_,.fn (hf:=h74) (hd:=rfl) (hr:=.inl rfl),?_⟩
    simp only [go_sem,hb1,h2]
    refine ⟨by kernel_rfl,?_⟩
    refine hK _ _ ?_
    clear hK K
    refine z6 rfl ?_
    repeat (first | refine nx ?_ | (refine z3 fun K hK=>?_;simp only [go_sem];apply hK;clear hK K))
    exact ⟨trivial,.inl (by rw [he,minRows,List.length_map])⟩
  ·have hb1:decide (m0 + (j:Int)≤min most x.now)=false:=by simpa using h1
   have he:j=L.length:=by
    refine z140 ?_ hj
    rw [hd]
    cases hf:(top - m0 + 1).toNat - j with
    | zero=>rfl
    | succ f=>rw [staysF,if_neg (fun hc=>h1 (by rw [← htop];exact hc.1))]
   refine z169 hS hG hP 25 (by kernel_rfl) (by kernel_rfl) (by kernel_rfl) (by decide) rfl fun K hK=>?_
   simp only [go_sem,trkB,hc9,hb1]
   refine ⟨by kernel_rfl,?_⟩
   refine hK _ _ ?_
   clear hK K
   refine z6 rfl ?_
   repeat (first | refine nx ?_ | (refine z3 fun K hK=>?_;simp only [go_sem];apply hK;clear hK K))
   exact ⟨trivial,.inl (by rw [he,minRows,List.length_map])⟩
theorem z1067 (n:Net) (x:Missed) (a b:DV) (place m0 most:Int) (hp:0≤place) (hm:0≤m0∧m0≤2 ^ 40) (hn:x.now≤2 ^ 40) (hl:x.clues.length<2 ^ 62) :
  IterE Tryd.prog 102 [] (fun l=>[.d (.yld l),.d (.ptr [.i place,.i m0] 0),.d (.ptr [.i most] 0),.d (.ptr [.ptr [.ptr (huntC n x) 0,a,b] 0] 0)]) (minRows (staysL x place m0 most)):=by
 refine z247 40 Tryd.call102 Tryd.func102 rfl rfl fun l J hG=>?_
 simp only [go_sem,St.startG,Tryd.ntmps102,Tryd.results102,List.map_cons,List.map_nil,List.range_succ,  ]
 repeat (first | refine nx ?_ | (refine z3 fun K hK=>?_;simp only [go_sem];apply hK;clear hK K))
 obtain ⟨L,hL⟩:∃ L,L=staysL x place m0 most:=⟨_,rfl⟩
 obtain ⟨top,htop⟩:∃ top,top=min most x.now:=⟨_,rfl⟩
 rw [← hL]
 have hL0:L=staysF x.clues place top (top - m0 + 1).toNat m0:=by rw [hL,staysL,htop]
 refine z62 (fun (j:Nat)=>[(5,.d (.i (m0 + j)))]) (fun _=>[]) (fun k j=>k=some j∧j≤L.length∧L.drop j=staysF x.clues place top ((top - m0 + 1).toNat - j) (m0 + j)) (fun j=>(top - m0 + 1).toNat + 1 - j) 0 ?_ ⟨rfl,Nat.zero_le _,by simpa using hL0⟩ ?_
 ·simp only [go_sem]
  refine weA ?_ ?_ <;> simp
 ·rintro k j ⟨rfl,hj,hd⟩
  simp only [go_sem]
  have hc9:(huntC n x)[9]?=some (.i x.now):=rfl
  repeat refine nx ?_
  have h74:=z1174 n x place (m0 + j) hp hl
  by_cases h1:m0 + (j:Int)≤min most x.now
  ·have hb1:decide (m0 + (j:Int)≤min most x.now)=true:=by simpa using h1
   have hf1:(top - m0 + 1).toNat - j=((top - m0 + 1).toNat - (j + 1)) + 1:=by omega
   have hw:IntKind.i64.wrap (m0 + (j:Int) + 1)=m0 + ((j + 1:Nat):Int):=by rw [z9 (by omega)];omega
   rw [hf1,staysF] at hd
   by_cases h2:atB x.clues place (m0 + j)=true
   ·rw [if_pos ⟨by omega,h2⟩] at hd
    obtain ⟨hg,hd2,hlt⟩:=z338 hd
    refine z66 hG [] 25 (by kernel_rfl) (by kernel_rfl) (by kernel_rfl) (by decide) fun K hK=>?_
    simp only [go_sem,hc9,hb1]
    refine ⟨_,.fn (hf:=h74) (hd:=rfl) (hr:=.inl rfl),?_⟩
    simp only [go_sem,hb1,h2]
    refine ⟨by kernel_rfl,?_⟩
    refine ⟨rfl,j,[.i (m0 + j)],rfl,rfl,rfl,by rw [← hL];exact z321 hg,?_,?_⟩
    ·simp only [go_sem]
     refine hK _ _ ?_
     clear hK K
     refine z11 rfl ?_
     repeat (first | refine nx ?_ | (refine z3 fun K hK=>?_;simp only [go_sem,hw];apply hK;clear hK K))
     refine ⟨j + 1,?_,⟨rfl,hlt,by rw [hd2];congr 1;omega⟩,by omega⟩
     refine weA ?_ ?_ <;> simp
    ·simp only [go_sem]
     refine hK _ _ ?_
     clear hK K
     refine z6 rfl ?_
     repeat (first | refine nx ?_ | (refine z3 fun K hK=>?_;simp only [go_sem];apply hK;clear hK K))
     exact ⟨trivial,.inr rfl⟩
   ·rw [if_neg (fun hc=>h2 hc.2)] at hd
    have h2:atB x.clues place (m0 + j)=false:=by simpa using h2
    have he:=z140 hd hj
    refine z66 hG [] 25 (by kernel_rfl) (by kernel_rfl) (by kernel_rfl) (by decide) fun K hK=>?_
    simp only [go_sem,hc9,hb1]
    refine ⟨_,.fn (hf:=h74) (hd:=rfl) (hr:=.inl rfl),?_⟩
    simp only [go_sem,hb1,h2]
    refine ⟨by kernel_rfl,?_⟩
    refine hK _ _ ?_
    clear hK K
    refine z6 rfl ?_
    repeat (first | refine nx ?_ | (refine z3 fun K hK=>?_;simp only [go_sem];apply hK;clear hK K))
    exact ⟨trivial,.inl (by rw [he,minRows,List.length_map])⟩
  ·have hb1:decide (m0 + (j:Int)≤min most x.now)=false:=by simpa using h1
   have he:j=L.length:=by
    refine z140 ?_ hj
    rw [hd]
    cases hf:(top - m0 + 1).toNat - j with
    | zero=>rfl
    | succ f=>rw [staysF,if_neg (fun hc=>h1 (by rw [← htop];exact hc.1))]
   refine z66 hG [] 25 (by kernel_rfl) (by kernel_rfl) (by kernel_rfl) (by decide) fun K hK=>?_
   simp only [go_sem,hc9,hb1]
   refine ⟨by kernel_rfl,?_⟩
   refine hK _ _ ?_
   clear hK K
   refine z6 rfl ?_
   repeat (first | refine nx ?_ | (refine z3 fun K hK=>?_;simp only [go_sem];apply hK;clear hK K))
   exact ⟨trivial,.inl (by rw [he,minRows,List.length_map])⟩
end Go.Ab
namespace Go.Ab
open Go.RowKit Go.Proofs
set_option maxHeartbeats 4000000
set_option maxRecDepth 20000
attribute [local irreducible] WalkL Walk
def walksF (cl:List Clue):Nat→Int→List (Int × Bool)
 | 0,_=>[]
 | f + 1,m=>(m,onB8 cl m)::if onB8 cl m=true then walksF cl f (m + 1) else []
def walksL (x:Missed) (leave:Int):List (Int × Bool):=walksF x.clues (x.now - leave).toNat (leave + 1)
def wkRows (l:List (Int × Bool)):List (List DV):=l.map fun m=>[.i m.1,.bool m.2]
theorem z899 {l:List (Int × Bool)} {j:Nat} {m:Int × Bool} (h:l[j]?=some m):(wkRows l)[j]?=some [.i m.1,.bool m.2]:=by simp [wkRows,h]
theorem z1198 (n:Net) (x:Missed) (leave:Int) (hm:0≤leave∧leave≤2 ^ 40) (hn:x.now≤2 ^ 40) (hl:x.clues.length<2 ^ 62) :
  IterB Tryd.prog 103 (fun b=>[.ptr [.i leave] 0,.ptr [.raw b 0] 0]) ((trkB n x).map some) (wkRows (walksL x leave)):=by
 refine z438 40 Tryd.call103 Tryd.func103 rfl rfl fun l J B pb hS hG hP=>?_
 have hw0:IntKind.i64.wrap (leave + 1)=leave + 1 + ((0:Nat):Int):=by rw [z9 (by omega)];omega
 simp only [go_sem,St.start,Tryd.ntmps103]
 repeat (first | refine nx ?_ | (refine z3 fun K hK=>?_;simp only [go_sem,hw0];apply hK;clear hK K))
 obtain ⟨L,hL⟩:∃ L,L=walksL x leave:=⟨_,rfl⟩
 rw [← hL]
 have hL0:L=walksF x.clues (x.now - leave).toNat (leave + 1):=by rw [hL,walksL]
 refine z62 (fun (j:Nat)=>[(4,.d (.i (leave + 1 + j)))]) (fun _=>[]) (fun k j=>k=some j∧j≤L.length∧L.drop j=walksF x.clues ((x.now - leave).toNat - j) (leave + 1 + j)) (fun j=>(x.now - leave).toNat + 1 - j) 0 ?_ ⟨rfl,Nat.zero_le _,by simpa using hL0⟩ ?_
 ·simp only [go_sem]
  refine weA ?_ ?_ <;> simp
 ·rintro k j ⟨rfl,hj,hd⟩
  have hc9:(huntC n x)[9]?=some (.i x.now):=rfl
  have h77:=z1270 n x (leave + 1 + j) hl
  have tr:trkB n x=[.ptr (huntC n x) 0]:=rfl
  simp only [go_sem]
  repeat refine nx ?_
  refine z145 hS hG hP fun K hK=>?_
  simp only [go_sem,tr,List.map_cons,List.map_nil,hc9]
  refine hK _ _ ?_
  clear hK K
  refine z5 rfl (fun hb=>?_) (fun hb=>?_)
  ·have hb1:leave + 1 + (j:Int)≤x.now:=by simpa using hb
   have hf1:(x.now - leave).toNat - j=((x.now - leave).toNat - (j + 1)) + 1:=by omega
   have hw:IntKind.i64.wrap (leave + 1 + (j:Int) + 1)=leave + 1 + ((j + 1:Nat):Int):=by rw [z9 (by omega)];omega
   rw [hf1,walksF] at hd
   obtain ⟨hg,hd2,hlt⟩:=z338 hd
   repeat refine nx ?_
   refine z145 hS hG hP fun K hK=>?_
   simp only [go_sem,tr,List.map_cons,List.map_nil]
   refine ⟨_,.lent (hf:=h77) (hd:=rfl) (hr:=rfl),?_⟩
   simp only [go_sem]
   refine hK _ _ ?_
   clear hK K
   repeat refine nx ?_
   refine z145 hS hG hP fun K hK=>?_
   simp only [go_sem,tr,List.map_cons,List.map_nil]
   refine ⟨rfl,j,[.i (leave + 1 + j),.bool (onB8 x.clues (leave + 1 + j))],rfl,rfl,by rw [← hL];exact z899 hg,?_,?_⟩
   ·by_cases ho:onB8 x.clues (leave + 1 + j)=true
    ·rw [if_pos ho] at hd2
     simp only [go_sem,ho]
     refine hK _ _ ?_
     clear hK K
     refine z6 rfl ?_
     repeat (first | refine nx ?_ | (refine z3 fun K hK=>?_;simp only [go_sem,hw];apply hK;clear hK K))
     refine ⟨j + 1,?_,⟨rfl,hlt,by rw [hd2];congr 1;omega⟩,by omega⟩
     refine weA ?_ ?_ <;> simp
    ·rw [if_neg ho] at hd2
     have ho:onB8 x.clues (leave + 1 + j)=false:=by simpa using ho
     have he:=z140 hd2 hlt
     simp only [go_sem,ho]
     refine hK _ _ ?_
     clear hK K
     refine z11 rfl ?_
     repeat (first | refine nx ?_ | (refine z3 fun K hK=>?_;simp only [go_sem];apply hK;clear hK K))
     exact ⟨trivial,.inl (by rw [he,wkRows,List.length_map])⟩
   ·simp only [go_sem]
    refine hK _ _ ?_
    clear hK K
    refine z11 rfl ?_
    repeat (first | refine nx ?_ | (refine z3 fun K hK=>?_;simp only [go_sem];apply hK;clear hK K))
    exact ⟨trivial,.inr rfl⟩
  ·have he:j=L.length:=by
    have hb1:¬ leave + 1 + (j:Int)≤x.now:=by simpa using hb
    refine z140 ?_ hj
    rw [hd,show (x.now - leave).toNat - j=0 by omega]
    rfl
   repeat (first | refine nx ?_ | (refine z3 fun K hK=>?_;simp only [go_sem];apply hK;clear hK K))
   exact ⟨trivial,.inl (by rw [he,wkRows,List.length_map])⟩
end Go.Ab
namespace Go.Ab
open Go.RowKit Go.Proofs
set_option maxHeartbeats 4000000
set_option maxRecDepth 20000
attribute [local irreducible] WalkL Walk
structure Arv where
 pl:Int
 mi:Int
 fp:Int
 fm:Int
 pa:Int
 lv:Int
def Arv.spot (a:Arv):List DV:=[.i a.pl,.i a.mi]
def Arv.leg (a:Arv):List DV:=[.i a.fp,.i a.fm,.i a.pa,.i a.lv]
def keyS (p m:Int):MK:=.s [(.i64,p),(.i64,m)]
def entsA:List Arv→Nat→List (MK × DV × Nat)
 | [],_=>[]
 | a::l,j=>(keyS a.pl a.mi,.agg a.leg,j)::entsA l (j + 1)
def arvRows (A:List Arv):List (List DV):=A.map Arv.spot
def legsB (A:List Arv):Blk:=.mp (some [.i64,.i64]) (entsA A 0) A.length
def trkM (h:DV) (A:List Arv):List Blk:=[.box [.d h,.mp 1,.own 2],legsB A,.arr 114 2 (arvRows A)]
def sameS (a b:Arv):Bool:=b.pl == a.pl && b.mi == a.mi
def arriveA (cl:List Clue) (A:List Arv) (a:Arv):List Arv:=if A.any (sameS a) || !atB cl a.pl a.mi then A else A++[a]
theorem z451 (a:Arv):∀ (l:List Arv) (j:Nat),entsA (l++[a]) j=entsA l j++[(keyS a.pl a.mi,.agg a.leg,j + l.length)]
 | [],j=>by simp [entsA]
 | x::l,j=>by simp [entsA,z451 a l];omega
theorem z192 {a b c d:Int}:keyS a b=keyS c d↔a=c∧b=d:=by simp [keyS]
theorem z452 (a:Arv):∀ (l:List Arv) (j i:Nat),l.any (sameS a)=false→findE (entsA l j) (keyS a.pl a.mi) i=none
 | [],_,_,_=>rfl
 | b::l,j,i,h=>by
  simp only [List.any_cons,Bool.or_eq_false_iff] at h
  rw [entsA,findE,if_neg (by rw [z192];intro hc;simp [sameS,hc.1,hc.2] at h)]
  exact z452 a l _ _ h.2
theorem z450 (a:Arv):∀ (l:List Arv) (j i:Nat),l.any (sameS a)=true→∃ q b s,b ∈ l∧sameS a b=true∧findE (entsA l j) (keyS a.pl a.mi) i=some (q,.agg b.leg,s)
 | [],_,_,h=>by simp at h
 | b::l,j,i,h=>by
  by_cases hb:sameS a b=true
  ·refine ⟨i,b,j,by simp,hb,?_⟩
   rw [entsA,findE,if_pos (by rw [z192];simp [sameS] at hb;exact ⟨hb.1.symm,hb.2.symm⟩)]
  ·have hb:sameS a b=false:=by simpa using hb
   simp only [List.any_cons,hb,Bool.false_or] at h
   obtain ⟨q,c,s,h1,h2,h3⟩:=z450 a l (j + 1) (i + 1) h
   refine ⟨q,c,s,by simp [h1],h2,?_⟩
   rw [entsA,findE,if_neg (by rw [z192];intro hc;simp [sameS,hc.1,hc.2] at hb)]
   exact h3
theorem z1292 (T:List DV) (place m0 most:Int):Fn Tryd.prog 84 [.ptr T 0,.agg [.i place,.i m0],.i most] (.fn 102 [.ptr [.i place,.i m0] 0,.ptr [.i most] 0,.ptr [.ptr T 0] 0]):=by
 refine z10 8 Tryd.call84 Tryd.func84 rfl (by decide) fun J=>?_
 simp only [go_sem,St.start,Tryd.ntmps84,Tryd.results84]
 repeat (first | refine nx ?_ | (refine z3 fun K hK=>?_;simp only [go_sem];apply hK;clear hK K))
 simp only [go_sem]
theorem z1249 (h:DV) (A:List Arv) (place m0 most:Int):FnG Tryd.prog 84 (trkM h A) [0] [.box 0 0,.d (.agg [.i place,.i m0]),.d (.i most)] (.fn 102 [.box 3 0,.box 4 0,.box 5 0]) (trkM h A++[.box [.d (.i place),.d (.i m0)],.box [.d (.i most)],.box [.box 0 0]]):=by
 simp only [trkM,legsB]
 refine z47 8 Tryd.call84 Tryd.func84 rfl (by decide) [4,5,3] [(0,0)] (by simp only [List.length_cons,List.length_nil];decide) (by kernel_rfl) fun J=>?_
 simp only [go_sem,St.startG,Tryd.ntmps84,Tryd.results84,List.map_cons,List.map_nil,List.range_succ,  ]
 repeat (first | refine nx ?_ | (refine z3 fun K hK=>?_;simp only [go_sem];apply hK;clear hK K))
 simp only [go_sem,List.cons_append,List.nil_append]
theorem z1248 (h:DV) (A:List Arv) (leave:Int):FnG Tryd.prog 85 (trkM h A) [0] [.box 0 0,.d (.i leave)] (.fn 103 [.box 3 0,.box 4 0]) (trkM h A++[.box [.d (.i leave)],.box [.box 0 0]]):=by
 simp only [trkM,legsB]
 refine z47 6 Tryd.call85 Tryd.func85 rfl (by decide) [3,2] [(0,0)] (by simp only [List.length_cons,List.length_nil];decide) (by kernel_rfl) fun J=>?_
 simp only [go_sem,St.startG,Tryd.ntmps85,Tryd.results85,List.map_cons,List.map_nil,List.range_succ,  ]
 repeat (first | refine nx ?_ | (refine z3 fun K hK=>?_;simp only [go_sem];apply hK;clear hK K))
 simp only [go_sem,List.cons_append,List.nil_append]
theorem z1293 (n:Net) (x:Missed) (A:List Arv) (a:Arv) (hp:0≤a.pl) (hl:x.clues.length<2 ^ 62) (hA:A.length<2 ^ 30) :
  FnG Tryd.prog 83 (trkM (.ptr (huntC n x) 0) A) [0] [.box 0 0,.d (.agg a.spot),.d (.agg a.leg)] (.tup []) (trkM (.ptr (huntC n x) 0) (arriveA x.clues A a)):=by
 have h74:=z1174 n x a.pl a.mi hp hl
 simp only [trkM,legsB,Arv.spot,Arv.leg]
 by_cases hk:A.any (sameS a)=true
 ·obtain ⟨q,b,s,_,_,hf⟩:=z450 a A 0 0 hk
  rw [keyS] at hf
  have e:arriveA x.clues A a=A:=by rw [arriveA,hk];rfl
  rw [e]
  refine z47 46 Tryd.call83 Tryd.func83 rfl (by decide) [] [(0,0)] (by simp only [List.length_cons,List.length_nil];decide) (by kernel_rfl) fun J=>?_
  simp only [go_sem,St.startG,Tryd.ntmps83,Tryd.results83,List.map_cons,List.map_nil,List.range_succ,  ]
  repeat (first | refine nx ?_ | (refine z3 fun K hK=>?_;simp only [go_sem,hf,Arv.leg];apply hK;clear hK K) | (refine z7 (by kernel_rfl) (by kernel_rfl) fun K hK=>?_;simp only [go_sem,hf,Arv.leg];refine ⟨by kernel_rfl,hK _ ?_⟩;clear hK K))
  refine z6 rfl ?_
  repeat (first | refine nx ?_ | (refine z3 fun K hK=>?_;simp only [go_sem];apply hK;clear hK K))
  simp only [go_sem]
 ·have hk:A.any (sameS a)=false:=by simpa using hk
  have hf:=z452 a A 0 0 hk
  rw [keyS] at hf
  by_cases ha:atB x.clues a.pl a.mi=true
  ·have e:arriveA x.clues A a=A++[a]:=by rw [arriveA,hk,ha];rfl
   rw [e]
   refine z47 46 Tryd.call83 Tryd.func83 rfl (by decide) [] [(0,0)] (by simp only [List.length_cons,List.length_nil];decide) (by kernel_rfl) fun J=>?_
   simp only [go_sem,St.startG,Tryd.ntmps83,Tryd.results83,List.map_cons,List.map_nil,List.range_succ,  ]
   repeat (first | refine nx ?_ | (refine z3 fun K hK=>?_;simp only [go_sem,hf,ha];(repeat (first | (refine ⟨_,.lent (hf:=h74) (hd:=rfl) (hr:=rfl),?_⟩;simp only [go_sem,hf,ha]) | (refine ⟨_,.given (hf:=h74) (hd:=rfl) (ha:=rfl),?_⟩;simp only [go_sem,hf,ha])));apply hK;clear hK K) | (refine z7 (by kernel_rfl) (by kernel_rfl) fun K hK=>?_;simp only [go_sem,hf,ha];(repeat (first | (refine ⟨_,.fn (hf:=h74) (hd:=rfl) (hr:=.inl rfl),?_⟩;simp only [go_sem,hf,ha])));refine ⟨by kernel_rfl,hK _ ?_⟩;clear hK K))
   refine z11 rfl ?_
   refine z27 ?_
   refine z170 6 (by kernel_rfl) (by kernel_rfl) (by kernel_rfl) (by decide) fun K hK=>?_
   simp only [go_sem,hf]
   refine ⟨by kernel_rfl,?_⟩
   refine hK _ _ ?_
   clear hK K
   have hrl:(arvRows A).length≤549755813887:=by rw [arvRows,List.length_map];omega
   have hpush:=z451 a A 0
   refine z548 (by kernel_rfl) (by kernel_rfl) fun K hK=>?_
   simp only [go_sem,hrl]
   refine ⟨by kernel_rfl,hK _ ?_⟩
   clear hK K
   repeat (first | refine nx ?_ | (refine z3 fun K hK=>?_;simp only [go_sem];apply hK;clear hK K))
   simp only [go_sem,hpush,arvRows,List.map_append,List.map_cons,List.map_nil,Arv.spot,Arv.leg,keyS,List.length_append,List.length_cons,List.length_nil,Nat.zero_add]
  ·have ha:atB x.clues a.pl a.mi=false:=by simpa using ha
   have e:arriveA x.clues A a=A:=by rw [arriveA,hk,ha];rfl
   rw [e]
   refine z47 46 Tryd.call83 Tryd.func83 rfl (by decide) [] [(0,0)] (by simp only [List.length_cons,List.length_nil];decide) (by kernel_rfl) fun J=>?_
   simp only [go_sem,St.startG,Tryd.ntmps83,Tryd.results83,List.map_cons,List.map_nil,List.range_succ,  ]
   repeat (first | refine nx ?_ | (refine z3 fun K hK=>?_;simp only [go_sem,hf,ha];(repeat (first | (refine ⟨_,.lent (hf:=h74) (hd:=rfl) (hr:=rfl),?_⟩;simp only [go_sem,hf,ha]) | (refine ⟨_,.given (hf:=h74) (hd:=rfl) (ha:=rfl),?_⟩;simp only [go_sem,hf,ha])));apply hK;clear hK K) | (refine z7 (by kernel_rfl) (by kernel_rfl) fun K hK=>?_;simp only [go_sem,hf,ha];(repeat (first | (refine ⟨_,.fn (hf:=h74) (hd:=rfl) (hr:=.inl rfl),?_⟩;simp only [go_sem,hf,ha])));refine ⟨by kernel_rfl,hK _ ?_⟩;clear hK K))
   refine z6 rfl ?_
   repeat (first | refine nx ?_ | (refine z3 fun K hK=>?_;simp only [go_sem];apply hK;clear hK K))
   simp only [go_sem]
end Go.Ab
namespace Go.Ab
open Go.RowKit Go.Proofs
set_option maxHeartbeats 4000000
set_option maxRecDepth 20000
attribute [local irreducible] WalkL Walk
structure Cnt where
 pl:Int
 mi:Int
 c:Int
def entsL:List Cnt→Nat→List (MK × DV × Nat)
 | [],_=>[]
 | a::l,j=>(keyS a.pl a.mi,.i a.c,j)::entsL l (j + 1)
def leftB (L:List Cnt):Blk:=.mp (some [.i64,.i64]) (entsL L 0) L.length
def cntL:List Cnt→Int→Int→Int
 | [],_,_=>0
 | a::l,p,m=>if a.pl=p∧a.mi=m then a.c else cntL l p m
def bumpL:List Cnt→Int→Int→List Cnt
 | [],p,m=>[⟨p,m,wr (0 + 1)⟩]
 | a::l,p,m=>if a.pl=p∧a.mi=m then ⟨a.pl,a.mi,wr (a.c + 1)⟩::l else a::bumpL l p m
def hasL (l:List Cnt) (p m:Int):Bool:=l.any fun a=>decide (a.pl=p∧a.mi=m)
theorem z254 {p m:Int}:∀ (l:List Cnt) (j i:Nat),hasL l p m=true→∃ q,findE (entsL l j) (keyS p m) i=some (i + q,.i (cntL l p m),j + q) ∧
  setBorn (entsL l j) ((j + q:Nat):Int) (.i (wr (cntL l p m + 1)))=some (entsL (bumpL l p m) j)∧(bumpL l p m).length=l.length
 | [],_,_,h=>by simp [hasL] at h
 | a::l,j,i,h=>by
  by_cases ha:a.pl=p∧a.mi=m
  ·refine ⟨0,?_,?_,?_⟩
   ·rw [entsL,findE,if_pos (by rw [z192];exact ⟨ha.1.symm,ha.2.symm⟩),cntL,if_pos ha];rfl
   ·rw [entsL,setBorn,if_pos (by simp),bumpL,if_pos ha,cntL,if_pos ha];rfl
   ·rw [bumpL,if_pos ha];rfl
  ·have h':hasL l p m=true:=by simpa [hasL,ha] using h
   obtain ⟨q,h1,h2,h3⟩:=z254 l (j + 1) (i + 1) h'
   refine ⟨q + 1,?_,?_,?_⟩
   ·rw [entsL,findE,if_neg (by rw [z192];exact fun hc=>ha ⟨hc.1.symm,hc.2.symm⟩),h1,cntL,if_neg ha,show i + 1 + q=i + (q + 1) by omega,show j + 1 + q=j + (q + 1) by omega]
   ·rw [entsL,setBorn,if_neg (by simp;omega),bumpL,if_neg ha,cntL,if_neg ha]
    rw [show ((j + (q + 1):Nat):Int)=((j + 1 + q:Nat):Int) by omega,h2]
    rfl
   ·rw [bumpL,if_neg ha];simp [h3]
theorem z270 {d:DV} {k:MK} {z:DV}:∀ (l:List Cnt) (j:Nat),setBorn (entsL l j++[(k,z,j + l.length)]) ((j + l.length:Nat):Int) d=some (entsL l j++[(k,d,j + l.length)])
 | [],j=>by simp [entsL,setBorn]
 | a::l,j=>by
  rw [entsL,List.cons_append,setBorn,if_neg (by simp only [List.length_cons];omega),List.length_cons]
  have:=z270 (d:=d) (k:=k) (z:=z) l (j + 1)
  rw [show j + 1 + l.length=j + (l.length + 1) by omega] at this
  rw [this]
  rfl
theorem z447 {p m:Int}:∀ (l:List Cnt) (j i:Nat),hasL l p m=false→findE (entsL l j) (keyS p m) i=none∧cntL l p m=0 ∧
  entsL (bumpL l p m) j=entsL l j++[(keyS p m,.i (wr (0 + 1)),j + l.length)]∧(bumpL l p m).length=l.length + 1
 | [],j,_,_=>by simp [entsL,findE,cntL,bumpL]
 | a::l,j,i,h=>by
  have ha:¬ (a.pl=p∧a.mi=m):=fun hc=>by simp [hasL,hc] at h
  have h':hasL l p m=false:=by
   rw [hasL,List.any_cons,Bool.or_eq_false_iff] at h
   exact h.2
  obtain ⟨h1,h2,h3,h4⟩:=z447 l (j + 1) (i + 1) h'
  refine ⟨?_,?_,?_,?_⟩
  ·rw [entsL,findE,if_neg (by rw [z192];exact fun hc=>ha ⟨hc.1.symm,hc.2.symm⟩),h1]
  ·rw [cntL,if_neg ha,h2]
  ·rw [bumpL,if_neg ha,entsL,h3,entsL,List.length_cons,List.cons_append]
   congr 3
   congr 2
   omega
  ·rw [bumpL,if_neg ha];simp [h4]
theorem z705 {p m:Int}:∀ (l:List Cnt),cntL (bumpL l p m) p m=wr (cntL l p m + 1)
 | []=>by simp [bumpL,cntL]
 | a::l=>by
  by_cases ha:a.pl=p∧a.mi=m
  ·rw [bumpL,if_pos ha,cntL,if_pos ha,cntL,if_pos ha]
  ·rw [bumpL,if_neg ha,cntL,if_neg ha,cntL,if_neg ha,z705 l]
theorem z673 {p m:Int}:∀ (l:List Cnt),hasL (bumpL l p m) p m=true
 | []=>by simp [bumpL,hasL]
 | a::l=>by
  by_cases ha:a.pl=p∧a.mi=m
  ·rw [bumpL,if_pos ha];simp [hasL,ha]
  ·rw [bumpL,if_neg ha]
   have:=z673 (p:=p) (m:=m) l
   simp [hasL] at this ⊢
   exact .inr this
def walkA (cl:List Clue) (lo hi:Int) (mk:Int→Arv):List (Int × Bool)→List Arv→List Arv
 | [],A=>A
 | w::ws,A=>if w.1 > hi then A else walkA cl lo hi mk ws (if w.1 ≥ lo then arriveA cl A (mk w.1) else A)
def pathA (n:Net) (x:Missed) (p m leave:Int) (A:List Arv) (k:Nat):List Arv:=match n.paths[k]? with
 | some y=>if y.frm=p∧y.grade≤x.party.grade then walkA x.clues (wr (leave + (spanW y x.party).lo)) (wr (leave + (spanW y x.party).hi)) (fun t=>⟨y.to,t,p,m,k,leave⟩) (walksL x leave) A else A
 | none=>A
def pathsA (n:Net) (x:Missed) (p m leave:Int) (k:Nat) (A:List Arv):List Arv:=(List.range k).foldl (pathA n x p m leave) A
def leaveA (n:Net) (x:Missed) (p m:Int) (a:List Arv × List Cnt) (leave:Int):List Arv × List Cnt :=
 if cntL (bumpL a.2 p leave) p leave > 1 then (a.1,bumpL a.2 p leave) else (pathsA n x p m leave n.paths.length a.1,bumpL a.2 p leave)
def spotA (n:Net) (x:Missed) (s:Arv) (a:List Arv × List Cnt):List Arv × List Cnt:=(staysL x s.pl s.mi (wr (s.mi + x.rest))).foldl (leaveA n x s.pl s.mi) a
def followF (n:Net) (x:Missed):Nat→Nat→List Arv × List Cnt→List Arv × List Cnt
 | 0,_,a=>a
 | f + 1,i,a=>match a.1[i]? with
  | some s=>followF n x f (i + 1) (spotA n x s a)
  | none=>a
def startA (x:Missed):List Arv:=arriveA x.clues [] ⟨x.place,x.start,0,0,-1,0⟩
end Go.Ab
namespace Go.Ab
open Go.RowKit Go.Proofs
set_option maxHeartbeats 16000000
set_option maxRecDepth 20000
attribute [local irreducible] WalkL Walk
structure Hunted (n:Net) (x:Missed):Prop where
 net:n.Good
 party:x.party.Good
 place:0≤x.place∧x.place<n.places
 start:0≤x.start∧x.start≤x.now
 now:x.now≤2880
 rest:0≤x.rest∧x.rest≤600
 clues:x.clues.length<2 ^ 30
def goodA (n:Net) (x:Missed) (A:List Arv):Prop:=(∀ a ∈ A,(0≤a.pl∧a.pl<n.places)∧x.start≤a.mi∧a.mi≤x.now)∧(A.map fun a=>(a.pl,a.mi)).Nodup
def boundN (n:Net) (x:Missed):Nat:=n.places.toNat * (x.now - x.start + 1).toNat
theorem z332 {n:Net} {x:Missed} {A:List Arv} (h:goodA n x A):A.length≤boundN n x:=by
 have h1:(A.map fun a=>(a.pl,a.mi)).length≤((List.range n.places.toNat).flatMap fun (i:Nat)=>(List.range (x.now - x.start + 1).toNat).map fun (j:Nat)=>((i:Int),x.start + (j:Int))).length:=by
  refine List.Nodup.length_le_of_subset h.2 fun q hq=>?_
  obtain ⟨a,ha,rfl⟩:=List.mem_map.1 hq
  obtain ⟨⟨h1,h2⟩,h3,h4⟩:=h.1 a ha
  refine List.mem_flatMap.2 ⟨a.pl.toNat,List.mem_range.2 (by omega),List.mem_map.2 ⟨(a.mi - x.start).toNat,List.mem_range.2 (by omega),?_⟩⟩
  simp;omega
 simp only [List.length_map,List.length_flatMap,List.length_range] at h1
 have:(List.map (fun _=>(x.now - x.start + 1).toNat) (List.range n.places.toNat)).sum=n.places.toNat * (x.now - x.start + 1).toNat:=by
  rw [List.map_const',List.sum_replicate_nat,List.length_range]
 rw [boundN];omega
theorem z711 {n:Net} {x:Missed} (h:Hunted n x):boundN n x≤40000:=by
 have h1:=h.net.places
 have h2:=h.start
 have h3:=h.now
 rw [boundN]
 have a1:n.places.toNat≤12:=by omega
 have a2:(x.now - x.start + 1).toNat≤2881:=by omega
 have:=Nat.mul_le_mul a1 a2
 omega
theorem z122 {n:Net} {x:Missed} {A:List Arv} {a:Arv} (h:goodA n x A) (ha:(0≤a.pl∧a.pl<n.places)∧x.start≤a.mi∧a.mi≤x.now):goodA n x (arriveA x.clues A a):=by
 rw [arriveA]
 split
 ·exact h
 ·rename_i hc
  have hc:A.any (sameS a)=false:=by
   rw [Bool.or_eq_true] at hc
   simpa using fun hh=>hc (.inl hh)
  refine ⟨fun b hb=>?_,?_⟩
  ·rcases List.mem_append.1 hb with hb | hb
   ·exact h.1 b hb
   ·simp at hb;subst hb;exact ha
  ·rw [List.map_append,List.nodup_append]
   refine ⟨h.2,by simp,fun u hu v hv e=>?_⟩
   simp at hv
   subst hv;subst e
   obtain ⟨b,hb,he⟩:=List.mem_map.1 hu
   have:=List.any_eq_false.1 hc b hb
   simp [sameS] at this
   simp at he
   exact this he.1 he.2
theorem z260 {cl:List Clue}:∀ {f:Nat} {m:Int} {w:Int × Bool},w ∈ walksF cl f m→m≤w.1∧w.1<m + f
 | 0,m,w,h=>by simp [walksF] at h
 | f + 1,m,w,h=>by
  rw [walksF] at h
  rcases List.mem_cons.1 h with rfl | h
  ·exact ⟨Int.le_refl _,by simp;omega⟩
  ·split at h
   ·have:=z260 h;omega
   ·simp at h
theorem z259 {x:Missed} {leave:Int} {w:Int × Bool} (h:w ∈ walksL x leave):leave + 1≤w.1∧w.1≤x.now:=by
 have:=z260 h
 omega
theorem z268 {cl:List Clue} {p top:Int}:∀ {f:Nat} {m w:Int},w ∈ staysF cl p top f m→m≤w∧w≤top
 | 0,m,w,h=>by simp [staysF] at h
 | f + 1,m,w,h=>by
  rw [staysF] at h
  split at h
  ·rename_i hc
   rcases List.mem_cons.1 h with rfl | h
   ·exact ⟨Int.le_refl _,hc.1⟩
   ·have:=z268 h;omega
  ·simp at h
theorem z267 {x:Missed} {p m most w:Int} (h:w ∈ staysL x p m most):m≤w∧w≤most∧w≤x.now:=by
 have:=z268 h
 omega
end Go.Ab
namespace Go.Ab
open Go.RowKit Go.Proofs
set_option maxHeartbeats 16000000
set_option maxRecDepth 20000
attribute [local irreducible] WalkL Walk
def trkL (h:DV) (A:List Arv):List Blk:=[.box [.d h,.mp 1,.own 2],.mp (some [.i64,.i64]) (entsA A 0) A.length,.arr 114 2 (arvRows A)]
theorem z342 (A:List Arv):(arvRows A).length=A.length:=by simp [arvRows]
theorem z343 {A:List Arv} {i:Nat} {s:Arv} (h:A[i]?=some s):(arvRows A)[i]?=some [.i s.pl,.i s.mi]:=by simp [arvRows,h,Arv.spot]
theorem z1191 (es:List (MK × DV × Nat)):mkE (es.map fun e=>(e.1,e.2.2)) (es.map fun e=>e.2.1)=es:=by
 induction es with
 | nil=>rfl
 | cons e es ih=>simp only [mkE,List.map_cons,List.zipWith_cons_cons] at ih ⊢;rw [ih]
theorem z418 (n:Net) (p:Party) {k:Nat} {y:Path} (hy:n.paths[k]?=some y):∃ ks vs c,timesD n p=.mp none ks vs c ∧
  ((y.grade≤p.grade∧∃ q b,findE (mkE ks vs) (.i k) 0=some (q,.agg (spanW y p).row,b))∨(¬ y.grade≤p.grade∧findE (mkE ks vs) (.i k) 0=none)):=by
 refine ⟨_,_,_,rfl,?_⟩
 rw [z1191]
 have hlt:=(List.getElem?_eq_some_iff.1 hy).1
 by_cases hg:y.grade≤p.grade
 ·obtain ⟨q,b,h⟩:=z448 p (w:=(k,y)) (canL n p) 0 0 (z707 hy hg hlt) (fun v hv e=>by
   obtain ⟨_,h2,_⟩:=z124 hv
   have e:v.1=k:=e
   rw [e,hy] at h2
   cases v
   simp at e h2
   rw [e,h2])
  exact .inl ⟨hg,q,b,h⟩
 ·refine .inr ⟨hg,z255 p _ 0 0 fun w hw e=>hg ?_⟩
  obtain ⟨_,h2,h3⟩:=z124 hw
  have:w.1=k:=by omega
  rw [this,hy] at h2
  cases h2
  exact h3
theorem z335 {k:MK} {d:DV} {b:Nat}:∀ (es:List (MK × DV × Nat)) (i:Nat),findE es k i=none→findE (es++[(k,d,b)]) k i=some (i + es.length,d,b)
 | [],i,_=>by simp [findE]
 | e::es,i,h=>by
  rw [findE] at h
  split at h
  ·cases h
  ·rename_i hk
   rw [List.cons_append,findE,if_neg hk,z335 es (i + 1) h]
   congr 2
   simp;omega
theorem z865 (cl:List Clue) (A:List Arv) (a:Arv):A.length≤(arriveA cl A a).length:=by
 rw [arriveA];split <;> simp
theorem z549 (cl:List Clue) (lo hi:Int) (mk:Int→Arv):∀ (ws:List (Int × Bool)) (A:List Arv),A.length≤(walkA cl lo hi mk ws A).length
 | [],A=>Nat.le_refl _
 | w::ws,A=>by
  rw [walkA];split
  ·exact Nat.le_refl _
  ·refine Nat.le_trans ?_ (z549 cl lo hi mk ws _)
   split
   ·exact z865 _ _ _
   ·exact Nat.le_refl _
theorem z1041 (n:Net) (x:Missed) (p m leave:Int) (A:List Arv) (k:Nat):A.length≤(pathA n x p m leave A k).length:=by
 rw [pathA];split
 ·split
  ·exact z549 _ _ _ _ _ _
  ·exact Nat.le_refl _
 ·exact Nat.le_refl _
theorem z690 {α β:Type} (f:List α→β→List α) (h:∀ a b,a.length≤(f a b).length):∀ (l:List β) (a:List α),a.length≤(l.foldl f a).length
 | [],a=>Nat.le_refl _
 | b::l,a=>Nat.le_trans (h a b) (z690 f h l _)
theorem z970 (n:Net) (x:Missed) (p m:Int) (a:List Arv × List Cnt) (lv:Int):a.1.length≤(leaveA n x p m a lv).1.length:=by
 rw [leaveA];split
 ·exact Nat.le_refl _
 ·exact z690 _ (fun A k=>z1041 n x p m lv A k) _ _
theorem z444 (n:Net) (x:Missed) (p m:Int):∀ (l:List Int) (a:List Arv × List Cnt),a.1.length≤(l.foldl (leaveA n x p m) a).1.length
 | [],a=>Nat.le_refl _
 | b::l,a=>Nat.le_trans (z970 n x p m a b) (z444 n x p m l _)
theorem z1024 (n:Net) (x:Missed) (s:Arv) (a:List Arv × List Cnt):a.1.length≤(spotA n x s a).1.length:=z444 _ _ _ _ _ _
theorem z1317 (n:Net) (x:Missed) (hx:Hunted n x):FnG Tryd.prog 49 [] [] [.d (.ptr (huntC n x) 0)] (.box 0 0) (trkM (.ptr (huntC n x) 0) (followF n x (boundN n x + 1) 0 (startA x,[])).1):=by
 have c7:(huntC n x)[7]?=some (.i x.place):=rfl
 have c8:(huntC n x)[8]?=some (.i x.start):=rfl
 have c10:(huntC n x)[10]?=some (.i x.rest):=rfl
 have c1:(huntC n x)[1]?=some (.sl (n.paths.map Path.row)):=rfl
 have h63:FnG Tryd.prog 83 [.box [.d (.ptr (huntC n x) 0),.mp 1,.own 2],.mp (some [.i64,.i64]) [] 0,.arr 114 2 []] [0] [.box 0 0,.d (.agg [.i x.place,.i x.start]),.d (.agg [.i 0,.i 0,.i (-1),.i 0])] (.tup [])
   [.box [.d (.ptr (huntC n x) 0),.mp 1,.own 2],.mp (some [.i64,.i64]) (entsA (startA x) 0) (startA x).length,.arr 114 2 (arvRows (startA x))] :=
  z1293 n x [] ⟨x.place,x.start,0,0,-1,0⟩ hx.place.1 (by have:=hx.clues;omega) (by simp)
 have hN:=z711 hx
 have hst:=hx.start
 have hno:=hx.now
 have hre:=hx.rest
 have hcl:=hx.clues
 have hpl:=hx.net.paths
 refine z47 160 Tryd.call49 Tryd.func49 rfl (by decide) [16,14,150] [] (by simp only [List.length_cons,List.length_nil];decide) (by kernel_rfl) fun J=>?_
 simp only [go_sem,St.startG,Tryd.ntmps49,Tryd.results49,List.map_cons,List.map_nil,List.range_succ,  ]
 repeat (first | refine nx ?_ | (refine z3 fun K hK=>?_;simp only [go_sem];apply hK;clear hK K))
 refine z417 [] [] [(16,some (.box [.d (.ptr (huntC n x) 0),.mp 14,.own 150])),(150,some (.arr 114 2 []))] ?_ ?_
 ·simp only [go_sem]
  refine z61 [150] ?_ ?_ rfl rfl <;> simp [lessT,lessM,lessB,AV.less]
 simp only [go_sem]
 refine z170 13 (by kernel_rfl) (by kernel_rfl) (by kernel_rfl) (by decide) fun K hK=>?_
 simp only [go_sem,c7,c8]
 refine ⟨by kernel_rfl,?_⟩
 refine ⟨_,.own (ns:=[16,14,150]) (news:=[]) (bads:=[14,150]) (rd:=[]) (hf:=h63) (hnd:=by decide) (hl0:=rfl) (hl1:=rfl) (hm:=by repeat (first | exact trivial | refine And.intro ?_ ?_ | rfl)) (hnew:=rfl) (hla:=rfl) (ha:=z76 (by repeat (first | exact trivial | refine And.intro ?_ ?_ | exact z89 rfl | exact z59 rfl rfl))) (hrd:=rfl) (hsh:=z212 _) (hb:=rfl) (hfl:=.inl rfl),?_⟩
 simp only [go_sem,List.map_cons,List.map_nil]
 refine hK _ _ ?_
 clear hK K
 repeat (first | refine nx ?_ | (refine z3 fun K hK=>?_;simp only [go_sem];apply hK;clear hK K))
 obtain ⟨R,hR⟩:∃ R,R=followF n x (boundN n x + 1) 0 (startA x,[]):=⟨_,rfl⟩
 rw [← hR]
 refine z13 (fun (a:Nat × List Arv × List Cnt)=>[(5,.d (.i a.1))]) (fun a=>[(14,some (.mp (some [.i64,.i64]) (entsA a.2.1 0) a.2.1.length)),(150,some (.arr 114 2 (arvRows a.2.1))),(31,some (.mp (some [.i64,.i64]) (entsL a.2.2 0) a.2.2.length))])
  (fun a=>a.1≤a.2.1.length∧goodA n x a.2.1∧R=followF n x (boundN n x + 1 - a.1) a.1 a.2) (fun a=>boundN n x + 1 - a.1) (0,startA x,[]) ?_ ⟨Nat.zero_le _,?_,hR⟩ ?_
 ·simp only [go_sem,entsL,List.length_nil]
  refine weA ?_ ?_ <;> simp
 ·exact z122 ⟨fun a ha=>(by simp at ha),by simp⟩ ⟨hx.place,Int.le_refl _,hst.2⟩
 ·rintro ⟨i,A,L⟩ ⟨hi,hgA,hRi⟩
  dsimp only at hi hgA hRi
  have hAl:=z332 hgA
  have hrl:=z342 A
  simp only [go_sem]
  repeat (first | refine nx ?_ | (refine z3 fun K hK=>?_;simp only [go_sem,hrl];apply hK;clear hK K))
  refine z5 rfl (fun hb=>?_) (fun hb=>?_)
  ·have hlt:i<A.length:=by simpa using hb
   have hw:IntKind.i64.wrap ((i:Int) + 1)=((i + 1:Nat):Int):=by rw [z9 (by omega)];simp
   obtain ⟨s,hs⟩:∃ s,A[i]?=some s:=⟨_,List.getElem?_eq_getElem hlt⟩
   have hrow:=z343 hs
   have hil:i<(arvRows A).length:=by omega
   have hgs:=hgA.1 s (List.mem_of_getElem? hs)
   have h64:FnG Tryd.prog 84 [.box [.d (.ptr (huntC n x) 0),.mp 1,.own 2],.mp (some [.i64,.i64]) (entsA A 0) A.length,.arr 114 2 (arvRows A)] [0] [.box 0 0,.d (.agg [.i s.pl,.i s.mi]),.d (.i (wr (s.mi + x.rest)))] (.fn 102 [.box 3 0,.box 4 0,.box 5 0])
    [.box [.d (.ptr (huntC n x) 0),.mp 1,.own 2],.mp (some [.i64,.i64]) (entsA A 0) A.length,.arr 114 2 (arvRows A),.box [.d (.i s.pl),.d (.i s.mi)],.box [.d (.i (wr (s.mi + x.rest)))],.box [.box 0 0]]:=z1249 _ A s.pl s.mi _
   repeat (first | refine nx ?_ | (refine z3 fun K hK=>?_;simp only [go_sem,hrow,hil];apply hK;clear hK K))
   refine z170 10 (by kernel_rfl) (by kernel_rfl) (by kernel_rfl) (by decide) fun K hK=>?_
   simp only [go_sem,c10]
   refine ⟨by kernel_rfl,?_⟩
   refine ⟨_,.own (ns:=[16,14,150]) (news:=[151,152,153]) (bads:=[14,150]) (rd:=[]) (hf:=h64) (hnd:=by decide) (hl0:=rfl) (hl1:=rfl) (hm:=by repeat (first | exact trivial | refine And.intro ?_ ?_ | rfl)) (hnew:=rfl) (hla:=rfl) (ha:=z76 (by repeat (first | exact trivial | refine And.intro ?_ ?_ | exact z89 rfl | exact z59 rfl rfl))) (hrd:=rfl) (hsh:=z212 _) (hb:=rfl) (hfl:=.inl rfl),?_⟩
   simp only [go_sem,List.map_cons,List.map_nil]
   refine hK _ _ ?_
   clear hK K
   refine z34 ?_
   have hsp:0≤s.pl:=hgs.1.1
   obtain ⟨Ls,hLs⟩:∃ Ls,Ls=staysL x s.pl s.mi (wr (s.mi + x.rest)):=⟨_,rfl⟩
   have hit:=z1199 n x s.pl s.mi (wr (s.mi + x.rest)) hsp (by omega) (by omega) (by omega)
   rw [← hLs] at hit
   refine z211 (fun _ h=>by cases h) 16 16 ((trkB n x).map some) [151,152,153] rfl hit (fun b=>rfl) (by intro row hr;obtain ⟨w,_,rfl⟩:=List.mem_map.1 hr;rfl)
    (fun _=>[(58,.undef)]) (fun (a:List Arv × List Cnt)=>[(151,none),(152,none),(153,none),(14,some (.mp (some [.i64,.i64]) (entsA a.1 0) a.1.length)),(150,some (.arr 114 2 (arvRows a.1))),(31,some (.mp (some [.i64,.i64]) (entsL a.2 0) a.2.length))])
    (fun i a=>a=(Ls.take i).foldl (leaveA n x s.pl s.mi) (A,L)∧goodA n x a.1) (fun _ _=>False) (A,L) ?_ ?_ ⟨by simp,hgA⟩ ?_ ?_ ?_ (fun _ _ h=>h.elim)
   ·exact ⟨rfl,rfl,trivial⟩
   ·simp only [go_sem]
    refine weA ?_ ?_ <;> simp
   ·intro a
    simp only [go_sem]
    exact ⟨rfl,rfl,trivial⟩
   ·rintro j ⟨A1,L1⟩ row hj ⟨hA1,hgA1⟩ l m
    dsimp only at hA1 hgA1
    obtain ⟨lv,hlv,rfl⟩:∃ lv,Ls[j]?=some lv∧row=[.i lv]:=by
     simp only [minRows,List.getElem?_map,Option.map_eq_some_iff] at hj
     obtain ⟨lv,h1,h2⟩:=hj
     exact ⟨lv,h1,h2.symm⟩
    have hlr:=z267 (hLs ▸ List.mem_of_getElem? hlv)
    have hnext:(Ls.take (j + 1)).foldl (leaveA n x s.pl s.mi) (A,L)=leaveA n x s.pl s.mi (A1,L1) lv:=by
     rw [List.take_add_one,hlv,List.foldl_append,← hA1];rfl
    simp only [go_sem]
    repeat (first | refine nx ?_ | (refine z3 fun K hK=>?_;simp only [go_sem];apply hK;clear hK K))
    intro J2 hJ2
    refine z34 ?_
    obtain ⟨c,hc⟩:∃ c,c=wr (cntL L1 s.pl lv + 1):=⟨_,rfl⟩
    obtain ⟨L2,hL2⟩:∃ L2,L2=bumpL L1 s.pl lv:=⟨_,rfl⟩
    have hcb:cntL L2 s.pl lv=c:=by rw [hL2,hc,z705]
    obtain ⟨q2,hq2,_⟩:=z254 (p:=s.pl) (m:=lv) L2 0 0 (by rw [hL2];exact z673 L1)
    rw [keyS,hcb,Nat.zero_add] at hq2
    have hc':IntKind.i64.wrap (cntL L1 s.pl lv + 1)=c:=hc.symm
    have hlv:leaveA n x s.pl s.mi (A1,L1) lv=if c > 1 then (A1,L2) else (pathsA n x s.pl s.mi lv n.paths.length A1,L2):=by
     rw [leaveA];dsimp only;rw [← hL2,hcb]
    repeat refine z27 ?_
    refine z22 [] [(31,some (.mp (some [.i64,.i64]) (entsL L2 0) L2.length))] ?_ ?_
    ·by_cases hin:hasL L1 s.pl lv=true
     ·obtain ⟨q1,hq1,hb1,hl1⟩:=z254 (p:=s.pl) (m:=lv) L1 0 0 hin
      rw [keyS,Nat.zero_add] at hq1
      rw [Nat.zero_add,← hc,← hL2] at hb1
      rw [← hL2] at hl1
      refine z264 (fun b=>[(60,bif b 0 then .undef else .mp 31),(61,bif b 1 then .undef else .box 6 0),(62,bif b 2 then .undef else .d (.i s.pl)),(63,bif b 3 then .undef else .d (.i lv)),(64,bif b 4 then .undef else .agg [.d (.i s.pl),.d (.i lv)]),
       (65,bif b 5 then .undef else .d (.i (cntL L1 s.pl lv))),(66,bif b 6 then .undef else .d (.i c)),(67,bif b 7 then .undef else .tup [.d (.i (cntL L1 s.pl lv)),.d (.i ((q1:Nat):Int))]),(68,bif b 8 then .undef else .d (.i ((q1:Nat):Int)))])
       (fun _=>[]) 9 (by kernel_rfl) (by kernel_rfl) (by kernel_rfl) (by decide) ?_ ?_ (Weak.refl _) ?_
      ·simp only [go_sem]
      ·refine ⟨?_,?_,?_,?_,?_,?_,?_,?_,?_,trivial⟩
       all_goals
        intro b hbm hdm _
        simp only [depsM,Region.binds,true_and,and_true,Nat.zero_add,Nat.reduceAdd,reduceCtorEq,forall_const] at hdm
        refine ⟨rfl,rfl,?_⟩
        cases hb7:b 7
        all_goals
         first | (exfalso;rw [hb7] at hbm;exact Bool.noConfusion hbm) | (exfalso;rw [hb7] at hdm;simp at hdm;done) | simp only [go_sem,hbm,hdm,hb7,hq1,hc']
      ·intro K hK
       simp only [go_sem,hb1]
       refine hK _ _ ?_
       clear hK K
       refine z8 ?_
       refine z4 ?_
       refine ⟨rfl,?_⟩
       simp only [go_sem,hl1]
       refine weA ?_ ?_ <;> simp
     ·have hin:hasL L1 s.pl lv=false:=by simpa using hin
      obtain ⟨hq1,hcz,hb1,hl1⟩:=z447 (p:=s.pl) (m:=lv) L1 0 0 hin
      have hsb:=z270 (d:=.i c) (k:=keyS s.pl lv) (z:=.i 0) L1 0
      have hc0:IntKind.i64.wrap (0 + 1)=c:=by rw [hc,hcz]
      rw [← hL2,show wr (0 + 1)=c from hc0] at hb1
      rw [← hb1] at hsb
      rw [← hL2] at hl1
      rw [keyS] at hq1 hsb
      simp only [Nat.zero_add] at hsb
      have hq1p:=z335 (d:=.i 0) (b:=L1.length) _ 0 hq1
      rw [Nat.zero_add] at hq1p
      refine z264 (fun b=>[(60,bif b 0 then .undef else .mp 31),(61,bif b 1 then .undef else .box 6 0),(62,bif b 2 then .undef else .d (.i s.pl)),(63,bif b 3 then .undef else .d (.i lv)),(64,bif b 4 then .undef else .agg [.d (.i s.pl),.d (.i lv)]),
       (65,bif b 5 then .undef else .d (.i 0)),(66,bif b 6 then .undef else .d (.i c)),(67,bif b 7 then .undef else .tup [.d (.i 0),.d (.i ((L1.length:Nat):Int))]),(68,bif b 8 then .undef else .d (.i ((L1.length:Nat):Int)))])
       (fun b=>[(31,bif b 7 then some (.mp (some [.i64,.i64]) (entsL L1 0) L1.length) else some (.mp (some [.i64,.i64]) (entsL L1 0++[(.s [(.i64,s.pl),(.i64,lv)],.i 0,L1.length)]) (L1.length + 1)))]) 9 (by kernel_rfl) (by kernel_rfl) (by kernel_rfl) (by decide) ?_ ?_ (Weak.refl _) ?_
      ·simp only [go_sem]
      ·refine ⟨?_,?_,?_,?_,?_,?_,?_,?_,?_,trivial⟩
       all_goals
        intro b hbm hdm _
        simp only [depsM,Region.binds,true_and,and_true,Nat.zero_add,Nat.reduceAdd,reduceCtorEq,forall_const] at hdm
        refine ⟨rfl,rfl,?_⟩
        cases hb7:b 7
        all_goals
         first | (exfalso;rw [hb7] at hbm;exact Bool.noConfusion hbm) | (exfalso;rw [hb7] at hdm;simp at hdm;done) | simp only [go_sem,hbm,hdm,hb7,hq1,hq1p,hc0]
      ·intro K hK
       simp only [go_sem,hsb]
       refine hK _ _ ?_
       clear hK K
       refine z8 ?_
       refine z4 ?_
       refine ⟨rfl,?_⟩
       simp only [go_sem,hl1]
       refine weA ?_ ?_ <;> simp
    simp only [go_sem]
    repeat (first | refine nx ?_ | (refine z3 fun K hK=>?_;simp only [go_sem,hq2];apply hK;clear hK K))
    refine z5 rfl (fun hcc=>?_) (fun hcc=>?_)
    ·have hcc':c > 1:=by simpa using hcc
     rw [if_pos hcc'] at hlv
     repeat (first | refine nx ?_ | (refine z3 fun K hK=>?_;simp only [go_sem];apply hK;clear hK K))
     refine ⟨rfl,(A1,L2),?_,by rw [hnext,hlv],hgA1⟩
     simp only [go_sem]
     refine weA ?_ ?_ <;> simp
    ·have hcc':¬ c > 1:=by simpa using hcc
     rw [if_neg hcc'] at hlv
     repeat (first | refine nx ?_ | (refine z3 fun K hK=>?_;simp only [go_sem,c1];apply hK;clear hK K))
     refine z13 (fun (a:Nat × List Arv)=>[(83,.d (.i a.1))]) (fun a=>[(14,some (.mp (some [.i64,.i64]) (entsA a.2 0) a.2.length)),(150,some (.arr 114 2 (arvRows a.2)))])
      (fun a=>a.1≤n.paths.length∧goodA n x a.2∧a.2=pathsA n x s.pl s.mi lv a.1 A1) (fun a=>n.paths.length - a.1) (0,A1) ?_ ⟨Nat.zero_le _,hgA1,rfl⟩ ?_
     ·simp only [go_sem]
      refine weA ?_ ?_ <;> simp
     ·rintro ⟨k,A2⟩ ⟨hk,hgA2,hA2⟩
      dsimp only at hk hgA2 hA2
      simp only [go_sem]
      repeat (first | refine nx ?_ | (refine z3 fun K hK=>?_;simp only [go_sem];apply hK;clear hK K))
      refine z5 rfl (fun hkb=>?_) (fun hkb=>?_)
      ·have hkl:k<n.paths.length:=by simpa using hkb
       have hkw:IntKind.i64.wrap ((k:Int) + 1)=((k + 1:Nat):Int):=by rw [z9 (by omega)];simp
       obtain ⟨y,hy⟩:∃ y,n.paths[k]?=some y:=⟨_,List.getElem?_eq_getElem hkl⟩
       obtain ⟨ks,vs,cc,hT,hlook⟩:=z418 n x.party hy
       have c2:(huntC n x)[2]?=some (.mp none ks vs cc):=by rw [← hT];rfl
       have hyg:=hx.net.path y (List.mem_of_getElem? hy)
       have hpk:pathsA n x s.pl s.mi lv (k + 1) A1=pathA n x s.pl s.mi lv A2 k:=by rw [pathsA,List.range_succ,List.foldl_append,hA2];rfl
       rw [pathA,hy] at hpk
       dsimp only at hpk
       rcases hlook with ⟨hg,q,b,hf⟩ | ⟨hg,hf⟩
       ·repeat (first | refine nx ?_ | (refine z3 fun K hK=>?_;simp only [go_sem,hy,List.getElem?_map,Path.row];apply hK;clear hK K))
        refine z7 (by kernel_rfl) (by kernel_rfl) fun K hK=>?_
        simp only [go_sem,c2,hf,Span.row]
        refine ⟨by kernel_rfl,hK _ ?_⟩
        clear hK K
        by_cases hfr:y.frm=s.pl
        ·have hne:(y.frm != s.pl)=false:=by simp [hfr]
         rw [if_pos ⟨hfr,hg⟩] at hpk
         have h65:FnG Tryd.prog 85 [.box [.d (.ptr (huntC n x) 0),.mp 1,.own 2],.mp (some [.i64,.i64]) (entsA A2 0) A2.length,.arr 114 2 (arvRows A2)] [0] [.box 0 0,.d (.i lv)] (.fn 103 [.box 3 0,.box 4 0])
          [.box [.d (.ptr (huntC n x) 0),.mp 1,.own 2],.mp (some [.i64,.i64]) (entsA A2 0) A2.length,.arr 114 2 (arvRows A2),.box [.d (.i lv)],.box [.box 0 0]]:=z1248 _ A2 lv
         obtain ⟨Ws,hWs⟩:∃ Ws,Ws=walksL x lv:=⟨_,rfl⟩
         have hit2:=z1198 n x lv (by omega) (by omega) (by omega)
         rw [← hWs] at hit2 hpk
         obtain ⟨lo,hlo⟩:∃ lo,lo=wr (lv + (spanW y x.party).lo):=⟨_,rfl⟩
         obtain ⟨hi,hhi⟩:∃ hi,hi=wr (lv + (spanW y x.party).hi):=⟨_,rfl⟩
         rw [← hlo,← hhi] at hpk
         have hlo':IntKind.i64.wrap (lv + (spanW y x.party).lo)=lo:=hlo.symm
         have hhi':IntKind.i64.wrap (lv + (spanW y x.party).hi)=hi:=hhi.symm
         repeat (first | refine nx ?_ | (refine z3 fun K hK=>?_;simp only [go_sem,hne];apply hK;clear hK K))
         refine z6 rfl ?_
         repeat (first | refine z27 ?_ | refine z42 ?_ | refine z8 ?_ | refine z4 ?_)
         refine z3 fun K hK=>?_
         simp only [go_sem]
         refine ⟨_,.own (ns:=[16,14,150]) (news:=[154,155]) (bads:=[14,150]) (rd:=[]) (hf:=h65) (hnd:=by decide) (hl0:=rfl) (hl1:=rfl) (hm:=by repeat (first | exact trivial | refine And.intro ?_ ?_ | rfl)) (hnew:=rfl) (hla:=rfl) (ha:=z76 (by repeat (first | exact trivial | refine And.intro ?_ ?_ | exact z89 rfl | exact z59 rfl rfl))) (hrd:=rfl) (hsh:=z212 _) (hb:=rfl) (hfl:=.inl rfl),?_⟩
         simp only [go_sem,List.map_cons,List.map_nil]
         apply hK
         clear hK K
         repeat (first | refine z27 ?_ | refine z42 ?_ | refine z8 ?_ | refine z4 ?_)
         refine z34 ?_
         have fin:∀ A3,walkA x.clues lo hi (fun t=>⟨y.to,t,s.pl,s.mi,k,lv⟩) Ws A2=A3→pathsA n x s.pl s.mi lv (k + 1) A1=A3:=fun A3 h=>by rw [hpk,h]
         refine z211 (fun _ h=>by cases h;exact hJ2) 16 16 ((trkB n x).map some) [154,155] rfl hit2 (fun b=>rfl) (by intro row hr;obtain ⟨w,_,rfl⟩:=List.mem_map.1 hr;rfl)
          (fun _=>[(109,.undef)]) (fun (a:List Arv)=>[(154,none),(155,none),(14,some (.mp (some [.i64,.i64]) (entsA a 0) a.length)),(150,some (.arr 114 2 (arvRows a)))])
          (fun i a=>walkA x.clues lo hi (fun t=>⟨y.to,t,s.pl,s.mi,k,lv⟩) Ws A2=walkA x.clues lo hi (fun t=>⟨y.to,t,s.pl,s.mi,k,lv⟩) (Ws.drop i) a∧goodA n x a)
          (fun e a=>e=.exit 6∧walkA x.clues lo hi (fun t=>⟨y.to,t,s.pl,s.mi,k,lv⟩) Ws A2=a∧goodA n x a) A2 ?_ ?_ ⟨rfl,hgA2⟩ ?_ ?_ ?_ ?_
         ·exact ⟨rfl,rfl,trivial⟩
         ·simp only [go_sem]
          refine weA ?_ ?_ <;> simp
         ·intro a
          simp only [go_sem]
          exact ⟨rfl,rfl,trivial⟩
         ·rintro i2 A3 row hj2 ⟨hA3,hgA3⟩ l2 m2
          obtain ⟨w,hw2,rfl⟩:∃ w,Ws[i2]?=some w∧row=[.i w.1,.bool w.2]:=by
           simp only [wkRows,List.getElem?_map,Option.map_eq_some_iff] at hj2
           obtain ⟨w,h1,h2⟩:=hj2
           exact ⟨w,h1,h2.symm⟩
          have hwr:=z259 (hWs ▸ List.mem_of_getElem? hw2)
          rw [z74 hw2,walkA] at hA3
          have hA3l:=z332 hgA3
          simp only [go_sem]
          repeat (first | refine nx ?_ | (refine z3 fun K hK=>?_;simp only [go_sem];apply hK;clear hK K))
          intro J3 hJ3
          refine z34 ?_
          repeat (first | refine nx ?_ | (refine z3 fun K hK=>?_;simp only [go_sem,hhi'];apply hK;clear hK K))
          refine z5 rfl (fun hc1=>?_) (fun hc1=>?_)
          ·have hc1':w.1 > hi:=by simpa using hc1
           rw [if_pos hc1'] at hA3
           repeat (first | refine nx ?_ | (refine z3 fun K hK=>?_;simp only [go_sem];apply hK;clear hK K))
           refine ⟨rfl,rfl,A3,?_,rfl,hA3,hgA3⟩
           simp only [go_sem]
           refine weA ?_ ?_ <;> simp
          ·have hc1':¬ w.1 > hi:=by simpa using hc1
           rw [if_neg hc1'] at hA3
           repeat (first | refine nx ?_ | (refine z3 fun K hK=>?_;simp only [go_sem,hlo'];apply hK;clear hK K))
           refine z5 rfl (fun hc2=>?_) (fun hc2=>?_)
           ·have hc2':w.1 ≥ lo:=by simpa using hc2
            rw [if_pos hc2'] at hA3
            have h63':FnG Tryd.prog 83 [.box [.d (.ptr (huntC n x) 0),.mp 1,.own 2],.mp (some [.i64,.i64]) (entsA A3 0) A3.length,.arr 114 2 (arvRows A3)] [0] [.box 0 0,.d (.agg [.i y.to,.i w.1]),.d (.agg [.i s.pl,.i s.mi,.i k,.i lv])] (.tup [])
             [.box [.d (.ptr (huntC n x) 0),.mp 1,.own 2],.mp (some [.i64,.i64]) (entsA (arriveA x.clues A3 ⟨y.to,w.1,s.pl,s.mi,k,lv⟩) 0) (arriveA x.clues A3 ⟨y.to,w.1,s.pl,s.mi,k,lv⟩).length,.arr 114 2 (arvRows (arriveA x.clues A3 ⟨y.to,w.1,s.pl,s.mi,k,lv⟩))] :=
             z1293 n x A3 ⟨y.to,w.1,s.pl,s.mi,k,lv⟩ hyg.to.1 (by omega) (by omega)
            repeat (first | refine z27 ?_ | refine z42 ?_)
            refine z3 fun K hK=>?_
            simp only [go_sem]
            refine ⟨_,.own (ns:=[16,14,150]) (news:=[]) (bads:=[14,150]) (rd:=[]) (hf:=h63') (hnd:=by decide) (hl0:=rfl) (hl1:=rfl) (hm:=by repeat (first | exact trivial | refine And.intro ?_ ?_ | rfl)) (hnew:=rfl) (hla:=rfl) (ha:=z76 (by repeat (first | exact trivial | refine And.intro ?_ ?_ | exact z89 rfl | exact z59 rfl rfl))) (hrd:=rfl) (hsh:=z212 _) (hb:=rfl) (hfl:=.inl rfl),?_⟩
            simp only [go_sem,List.map_cons,List.map_nil]
            apply hK
            clear hK K
            repeat (first | refine nx ?_ | (refine z3 fun K hK=>?_;simp only [go_sem];apply hK;clear hK K))
            refine ⟨rfl,arriveA x.clues A3 ⟨y.to,w.1,s.pl,s.mi,k,lv⟩,?_,hA3,z122 hgA3 ⟨hyg.to,by dsimp only;omega⟩⟩
            simp only [go_sem]
            refine weA ?_ ?_ <;> simp
           ·have hc2':¬ w.1 ≥ lo:=by simpa using hc2
            rw [if_neg hc2'] at hA3
            repeat (first | refine nx ?_ | (refine z3 fun K hK=>?_;simp only [go_sem];apply hK;clear hK K))
            refine ⟨rfl,A3,?_,hA3,hgA3⟩
            simp only [go_sem]
            refine weA ?_ ?_ <;> simp
         ·rintro A3 ⟨hA3,hgA3⟩
          rw [wkRows,List.length_map,List.drop_length,walkA] at hA3
          simp only [go_sem]
          repeat (first | refine nx ?_ | (refine z3 fun K hK=>?_;simp only [go_sem,hkw];apply hK;clear hK K))
          refine ⟨rfl,(k + 1,A3),?_,⟨hkl,hgA3,(fin A3 hA3).symm⟩,by dsimp only;omega⟩
          simp only [go_sem]
          refine weA ?_ ?_ <;> simp
         ·rintro e A3 ⟨rfl,hA3,hgA3⟩ _
          refine z64 ?_
          refine z4 ?_
          simp only [go_sem]
          repeat (first | refine nx ?_ | (refine z3 fun K hK=>?_;simp only [go_sem,hkw];apply hK;clear hK K))
          refine ⟨rfl,(k + 1,A3),?_,⟨hkl,hgA3,(fin A3 hA3).symm⟩,by dsimp only;omega⟩
          simp only [go_sem]
          refine weA ?_ ?_ <;> simp
        ·have hne:(y.frm != s.pl)=true:=by simpa using hfr
         rw [if_neg (fun hc=>hfr hc.1)] at hpk
         repeat (first | refine nx ?_ | (refine z3 fun K hK=>?_;simp only [go_sem,hne];apply hK;clear hK K))
         refine z11 rfl ?_
         repeat (first | refine nx ?_ | (refine z3 fun K hK=>?_;simp only [go_sem,hkw];apply hK;clear hK K))
         refine ⟨rfl,(k + 1,A2),?_,⟨hkl,hgA2,hpk.symm⟩,by dsimp only;omega⟩
         simp only [go_sem]
         refine weA ?_ ?_ <;> simp
       ·rw [if_neg (fun hc=>hg hc.2)] at hpk
        repeat (first | refine nx ?_ | (refine z3 fun K hK=>?_;simp only [go_sem,hy,List.getElem?_map,Path.row];apply hK;clear hK K))
        refine z7 (by kernel_rfl) (by kernel_rfl) fun K hK=>?_
        simp only [go_sem,c2,hf]
        refine ⟨by kernel_rfl,hK _ ?_⟩
        clear hK K
        by_cases hfr:y.frm=s.pl
        all_goals
         first | (have hne:(y.frm != s.pl)=false:=by simp [hfr]) | (have hne:(y.frm != s.pl)=true:=by simpa using hfr)
         repeat (first | refine nx ?_ | (refine z3 fun K hK=>?_;simp only [go_sem,hne];apply hK;clear hK K))
         refine z11 rfl ?_
         repeat (first | refine nx ?_ | (refine z3 fun K hK=>?_;simp only [go_sem,hkw];apply hK;clear hK K))
         refine ⟨rfl,(k + 1,A2),?_,⟨hkl,hgA2,hpk.symm⟩,by dsimp only;omega⟩
         simp only [go_sem]
         refine weA ?_ ?_ <;> simp
      ·have he:k=n.paths.length:=by (have:¬ k<n.paths.length:=by simpa using hkb);omega
       subst he
       repeat (first | refine nx ?_ | (refine z3 fun K hK=>?_;simp only [go_sem];apply hK;clear hK K))
       refine ⟨rfl,(A2,L2),?_,by rw [hnext,hlv,hA2],hgA2⟩
       simp only [go_sem]
       refine weA ?_ ?_ <;> simp
   ·rintro ⟨A1,L1⟩ ⟨hA1,hgA1⟩
    rw [minRows,List.length_map,List.take_length,hLs] at hA1
    have hA1:(A1,L1)=spotA n x s (A,L):=hA1
    have hln:A.length≤A1.length:=by
     have:=z1024 n x s (A,L)
     rw [← hA1] at this
     exact this
    rw [show boundN n x + 1 - i=(boundN n x - i) + 1 by omega,followF] at hRi
    dsimp only at hRi
    rw [hs] at hRi
    dsimp only at hRi
    rw [← hA1] at hRi
    simp only [go_sem]
    repeat (first | refine nx ?_ | (refine z3 fun K hK=>?_;simp only [go_sem,hw];apply hK;clear hK K))
    refine ⟨rfl,(i + 1,A1,L1),?_,⟨?_,hgA1,?_⟩,by dsimp only;omega⟩
    ·simp only [go_sem]
     refine weA ?_ ?_ <;> simp
    ·dsimp only at hgA1 ⊢;omega
    ·dsimp only
     rw [show boundN n x + 1 - (i + 1)=boundN n x - i by omega]
     exact hRi
  ·have he:i=A.length:=by (have:¬ i<A.length:=by simpa using hb);omega
   have hRe:R=(A,L):=by
    rw [hRi]
    cases hf:boundN n x + 1 - i with
    | zero=>rfl
    | succ f=>rw [followF];dsimp only;rw [List.getElem?_eq_none (by omega)]
   rw [hRe]
   repeat (first | refine nx ?_ | (refine z3 fun K hK=>?_;simp only [go_sem];apply hK;clear hK K))
   simp only [go_sem,trkM,legsB]
end Go.Ab
namespace Go.Ab
open Go.RowKit Go.Proofs
set_option maxHeartbeats 16000000
set_option maxRecDepth 20000
attribute [local irreducible] WalkL Walk
structure EndT where
 pl:Int
 mi:Int
 pa:Int
 lv:Int
def EndT.row (e:EndT):List DV:=[.i e.pl,.i e.mi,.i e.pa,.i e.lv]
def endRows (l:List EndT):List (List DV):=l.map fun e=>[.agg e.row]
def seenF (l:List Clue):Int:=l.foldl (fun a c=>if c.seen then max a c.minute else a) 0
def endIn (x:Missed) (s:Arv) (m:Int):Option EndT:=if m=x.now then some ⟨s.pl,s.mi,-1,x.now⟩ else none
def endOn (n:Net) (x:Missed) (s:Arv) (lv:Int) (k:Nat):Option EndT:=match n.paths[k]? with
 | some y=>if y.grade≤x.party.grade∧y.frm=s.pl then some ⟨s.pl,s.mi,k,lv⟩ else none
 | none=>none
def endLv (n:Net) (x:Missed) (s:Arv) (lv:Int):List EndT:=if lv=x.now∨lv<seenF x.clues then [] else (List.range n.paths.length).filterMap (endOn n x s lv)
def endOf8 (n:Net) (x:Missed) (s:Arv):List EndT:=(staysL x s.pl s.mi x.now).filterMap (endIn x s)++(staysL x s.pl s.mi (wr (s.mi + x.rest))).flatMap (endLv n x s)
def endsL (n:Net) (x:Missed) (A:List Arv):List EndT:=A.flatMap (endOf8 n x)
theorem z453 {I X Y:List EndT} {e:EndT} (h:I=X++e::Y):(endRows I)[X.length]?=some [.agg e.row]:=by
 rw [h];simp [endRows]
theorem z1231 (n:Net) (x:Missed) (hx:Hunted n x) (A:List Arv) (b:DV) (hgA:goodA n x A) :
  IterE Tryd.prog 50 [] (fun l=>[.d (.ptr [.ptr (huntC n x) 0,b,.sl (arvRows A)] 0),.d (.yld l)]) (endRows (endsL n x A)):=by
 have c11:(huntC n x)[11]?=some (.sl (x.clues.map Clue.row)):=rfl
 have c9:(huntC n x)[9]?=some (.i x.now):=rfl
 have c10:(huntC n x)[10]?=some (.i x.rest):=rfl
 have c1:(huntC n x)[1]?=some (.sl (n.paths.map Path.row)):=rfl
 have hst:=hx.start
 have hno:=hx.now
 have hre:=hx.rest
 have hcl:=hx.clues
 have hpl:=hx.net.paths
 have hAl:=z332 hgA
 have hN:=z711 hx
 obtain ⟨H,hH⟩:∃ H,H=huntC n x:=⟨_,rfl⟩
 refine z247 160 Tryd.call50 Tryd.func50 rfl rfl fun l J hG=>?_
 simp only [go_sem,St.startG,Tryd.ntmps50,Tryd.results50,List.map_cons,List.map_nil,List.range_succ,  ]
 repeat (first | refine nx ?_ | (refine z3 fun K hK=>?_;simp only [go_sem,c11];apply hK;clear hK K))
 refine z13 (fun (i:Nat)=>[(24,.d (.i i))]) (fun i=>[(4,some (.box [.d (.i (seenF (x.clues.take i)))]))]) (fun i=>i≤x.clues.length) (fun i=>x.clues.length - i) 0 ?_ (Nat.zero_le _) ?_
 ·simp only [go_sem,seenF,List.take_zero,List.foldl_nil]
  refine weA ?_ ?_ <;> simp
 ·intro i hi
  simp only [go_sem]
  repeat (first | refine nx ?_ | (refine z3 fun K hK=>?_;simp only [go_sem];apply hK;clear hK K))
  refine z5 rfl (fun hb=>?_) (fun hb=>?_)
  ·have hlt:i<x.clues.length:=by simpa using hb
   have hw:IntKind.i64.wrap ((i:Int) + 1)=((i + 1:Nat):Int):=by rw [z9 (by omega)];simp
   obtain ⟨c,hc⟩:∃ c,x.clues[i]?=some c:=⟨_,List.getElem?_eq_getElem hlt⟩
   have hs1:seenF (x.clues.take (i + 1))=if c.seen then max (seenF (x.clues.take i)) c.minute else seenF (x.clues.take i):=by
    rw [seenF,z36 _ _ _ _ _ hc];rfl
   repeat (first | refine nx ?_ | (refine z3 fun K hK=>?_;simp only [go_sem,hc,List.getElem?_map,Clue.row];apply hK;clear hK K))
   cases hcs:c.seen
   ·rw [hcs] at hs1
    refine z6 rfl ?_
    repeat (first | refine nx ?_ | (refine z3 fun K hK=>?_;simp only [go_sem,hw];apply hK;clear hK K))
    refine ⟨rfl,i + 1,?_,hlt,by omega⟩
    simp only [go_sem,hs1,Bool.false_eq_true,if_false]
    refine weA ?_ ?_ <;> simp
   ·rw [hcs] at hs1
    refine z11 rfl ?_
    repeat (first | refine nx ?_ | (refine z3 fun K hK=>?_;simp only [go_sem,hw];apply hK;clear hK K))
    refine ⟨rfl,i + 1,?_,hlt,by omega⟩
    simp only [go_sem,hs1,if_true]
    refine weA ?_ ?_ <;> simp
  ·have he:i=x.clues.length:=by (have:¬ i<x.clues.length:=by simpa using hb);omega
   subst he
   rw [List.take_length]
   have hrl:=z342 A
   repeat (first | refine nx ?_ | (refine z3 fun K hK=>?_;simp only [go_sem,hrl];apply hK;clear hK K))
   obtain ⟨I,hI⟩:∃ I,I=endsL n x A:=⟨_,rfl⟩
   rw [← hI] at hG ⊢
   refine z62 (fun (i:Nat)=>[(40,.d (.i i))]) (fun _=>[]) (fun k i=>i≤A.length∧∃ X,k=some X.length∧I=X++(A.drop i).flatMap (endOf8 n x)) (fun i=>A.length - i) 0 ?_ ⟨Nat.zero_le _,[],rfl,by rw [hI];rfl⟩ ?_
   ·simp only [go_sem]
    refine weA ?_ ?_ <;> simp
   ·rintro k i ⟨hi,X,rfl,hX⟩
    simp only [go_sem]
    repeat (first | refine nx ?_ | (refine z3 fun K hK=>?_;simp only [go_sem];apply hK;clear hK K))
    refine z5 rfl (fun hb=>?_) (fun hb=>?_)
    ·have hlt:i<A.length:=by simpa using hb
     have hw:IntKind.i64.wrap ((i:Int) + 1)=((i + 1:Nat):Int):=by rw [z9 (by omega)];simp
     obtain ⟨s,hs⟩:∃ s,A[i]?=some s:=⟨_,List.getElem?_eq_getElem hlt⟩
     have hrow:=z343 hs
     have hgs:=hgA.1 s (List.mem_of_getElem? hs)
     rw [z74 hs,List.flatMap_cons,endOf8] at hX
     have h64a:=z1292 [.ptr (huntC n x) 0,b,.sl (arvRows A)] s.pl s.mi x.now
     have h64b:=z1292 [.ptr (huntC n x) 0,b,.sl (arvRows A)] s.pl s.mi (wr (s.mi + x.rest))
     have hit1:=z1067 n x b (.sl (arvRows A)) s.pl s.mi x.now hgs.1.1 (by omega) (by omega) (by omega)
     have hit2:=z1067 n x b (.sl (arvRows A)) s.pl s.mi (wr (s.mi + x.rest)) hgs.1.1 (by omega) (by omega) (by omega)
     obtain ⟨L1,hL1⟩:∃ L,L=staysL x s.pl s.mi x.now:=⟨_,rfl⟩
     obtain ⟨L2,hL2⟩:∃ L,L=staysL x s.pl s.mi (wr (s.mi + x.rest)):=⟨_,rfl⟩
     rw [← hL1] at hit1 hX
     rw [← hL2] at hit2 hX
     obtain ⟨Z,hZ⟩:∃ Z,Z=(A.drop (i + 1)).flatMap (endOf8 n x):=⟨_,rfl⟩
     rw [← hZ] at hX
     repeat (first | refine nx ?_ | (refine z3 fun K hK=>?_;simp only [go_sem,hrow];apply hK;clear hK K))
     refine z7 (by kernel_rfl) (by kernel_rfl) fun K hK=>?_
     simp only [go_sem,c9]
     refine ⟨_,.fn (hf:=h64a) (hd:=rfl) (hr:=.inr rfl),?_⟩
     simp only [go_sem]
     refine ⟨by kernel_rfl,hK _ ?_⟩
     clear hK K
     refine z34 ?_
     refine z168 rfl hit1 (by intro row hr;obtain ⟨w,_,rfl⟩:=List.mem_map.1 hr;rfl) (fun (_:Unit)=>[]) (fun _=>[]) (fun k' j _=>∃ Y,k'=some Y.length∧I=Y++((L1.drop j).filterMap (endIn x s)++(L2.flatMap (endLv n x s)++Z)))
      (fun e k' _=>e=.ret∧k'=none) () ?_ ⟨X,rfl,by simpa using hX⟩ ?_ ?_ ?_
     ·simp only [go_sem]
      refine weA ?_ ?_ <;> simp
     ·rintro X0 W0 k' j _ row hj ⟨Y,rfl,hY⟩ l1 m1
      obtain ⟨m,hm,rfl⟩:∃ m,L1[j]?=some m∧row=[.i m]:=by
       simp only [minRows,List.getElem?_map,Option.map_eq_some_iff] at hj
       obtain ⟨lv,h1,h2⟩:=hj
       exact ⟨lv,h1,h2.symm⟩
      have hG1:=z250 hG X0 W0
      rw [z74 hm,List.filterMap_cons] at hY
      simp only [go_sem]
      repeat (first | refine nx ?_ | (refine z3 fun K hK=>?_;simp only [go_sem];apply hK;clear hK K))
      by_cases hmn:m=x.now
      ·have hme:(m == x.now)=true:=by simpa using hmn
       have hei:endIn x s m=some ⟨s.pl,s.mi,-1,x.now⟩:=by rw [endIn,if_pos hmn]
       rw [hei] at hY
       dsimp only at hY
       rw [List.cons_append] at hY
       refine z66 hG1 [] 22 (by kernel_rfl) (by kernel_rfl) (by kernel_rfl) (by decide) fun K hK=>?_
       simp only [go_sem,c9,hme]
       refine ⟨by kernel_rfl,?_⟩
       refine ⟨rfl,Y.length,_,rfl,rfl,rfl,z453 hY,?_,?_⟩
       ·simp only [go_sem]
        refine hK _ _ ?_
        clear hK K
        refine z6 rfl ?_
        repeat (first | refine nx ?_ | (refine z3 fun K hK=>?_;simp only [go_sem];apply hK;clear hK K))
        refine ⟨(),?_,Y++[⟨s.pl,s.mi,-1,x.now⟩],by simp,by rw [hY];simp⟩
        simp only [go_sem]
        refine weA ?_ ?_ <;> simp
       ·simp only [go_sem]
        refine hK _ _ ?_
        clear hK K
        refine z11 rfl ?_
        repeat (first | refine nx ?_ | (refine z3 fun K hK=>?_;simp only [go_sem];apply hK;clear hK K))
        refine ⟨rfl,(),?_,rfl,rfl⟩
        simp only [go_sem]
        refine weA ?_ ?_ <;> simp
      ·have hme:(m == x.now)=false:=by simpa using hmn
       have hei:endIn x s m=none:=by rw [endIn,if_neg hmn]
       rw [hei] at hY
       dsimp only at hY
       refine z66 hG1 [] 22 (by kernel_rfl) (by kernel_rfl) (by kernel_rfl) (by decide) fun K hK=>?_
       simp only [go_sem,c9,hme]
       refine ⟨by kernel_rfl,?_⟩
       refine hK _ _ ?_
       clear hK K
       refine z6 rfl ?_
       repeat (first | refine nx ?_ | (refine z3 fun K hK=>?_;simp only [go_sem];apply hK;clear hK K))
       refine ⟨(),?_,Y,rfl,hY⟩
       simp only [go_sem]
       refine weA ?_ ?_ <;> simp
     ·rintro k' _ ⟨Y,rfl,hY⟩
      rw [minRows,List.length_map,List.drop_length,List.filterMap_nil,List.nil_append] at hY
      simp only [go_sem]
      repeat (first | refine nx ?_ | (refine z3 fun K hK=>?_;simp only [go_sem];apply hK;clear hK K))
      refine z7 (by kernel_rfl) (by kernel_rfl) fun K hK=>?_
      simp only [go_sem,c10]
      refine ⟨_,.fn (hf:=h64b) (hd:=rfl) (hr:=.inr rfl),?_⟩
      simp only [go_sem]
      refine ⟨by kernel_rfl,hK _ ?_⟩
      clear hK K
      refine z34 ?_
      refine z168 rfl hit2 (by intro row hr;obtain ⟨w,_,rfl⟩:=List.mem_map.1 hr;rfl) (fun (_:Unit)=>[]) (fun _=>[]) (fun k' j _=>∃ Y,k'=some Y.length∧I=Y++((L2.drop j).flatMap (endLv n x s)++Z))
       (fun e k' _=>e=.ret∧k'=none) () ?_ ⟨Y,rfl,by simpa using hY⟩ ?_ ?_ ?_
      ·simp only [go_sem]
       refine weA ?_ ?_ <;> simp
      ·rintro X0 W0 k' j _ row hj ⟨Y,rfl,hY⟩ l1 m1
       obtain ⟨lv,hlv,rfl⟩:∃ m,L2[j]?=some m∧row=[.i m]:=by
        simp only [minRows,List.getElem?_map,Option.map_eq_some_iff] at hj
        obtain ⟨lv,h1,h2⟩:=hj
        exact ⟨lv,h1,h2.symm⟩
       have hG1:=z250 hG X0 W0
       rw [z74 hlv,List.flatMap_cons] at hY
       simp only [go_sem]
       repeat (first | refine nx ?_ | (refine z3 fun K hK=>?_;simp only [go_sem];apply hK;clear hK K))
       by_cases hmn:lv=x.now
       ·have hme:(lv == x.now)=true:=by simpa using hmn
        rw [endLv,if_pos (.inl hmn),List.nil_append] at hY
        repeat (first | refine nx ?_ | (refine z3 fun K hK=>?_;simp only [go_sem,c9,hme];apply hK;clear hK K))
        refine z11 rfl ?_
        repeat (first | refine nx ?_ | (refine z3 fun K hK=>?_;simp only [go_sem];apply hK;clear hK K))
        refine ⟨(),?_,Y,rfl,hY⟩
        simp only [go_sem]
        refine weA ?_ ?_ <;> simp
       ·have hme:(lv == x.now)=false:=by simpa using hmn
        by_cases hls:lv<seenF x.clues
        ·have hle:decide (lv<seenF x.clues)=true:=by simpa using hls
         rw [endLv,if_pos (.inr hls),List.nil_append] at hY
         repeat (first | refine nx ?_ | (refine z3 fun K hK=>?_;simp only [go_sem,c9,hme,hle];apply hK;clear hK K))
         refine z11 rfl ?_
         repeat (first | refine nx ?_ | (refine z3 fun K hK=>?_;simp only [go_sem];apply hK;clear hK K))
         refine ⟨(),?_,Y,rfl,hY⟩
         simp only [go_sem]
         refine weA ?_ ?_ <;> simp
        ·have hle:decide (lv<seenF x.clues)=false:=by simpa using hls
         rw [endLv,if_neg (fun hc=>hc.elim hmn hls)] at hY
         repeat (first | refine nx ?_ | (refine z3 fun K hK=>?_;simp only [go_sem,c9,hme,hle];apply hK;clear hK K))
         refine z6 rfl ?_
         repeat (first | refine nx ?_ | (refine z3 fun K hK=>?_;simp only [go_sem,c1];apply hK;clear hK K))
         obtain ⟨V,hV⟩:∃ V,V=(L2.drop (j + 1)).flatMap (endLv n x s)++Z:=⟨_,rfl⟩
         rw [List.append_assoc,← hV] at hY
         refine z62 (fun (q:Nat)=>[(121,.d (.i q))]) (fun _=>[]) (fun k q=>q≤n.paths.length∧∃ Y,k=some Y.length∧I=Y++((List.range' q (n.paths.length - q)).filterMap (endOn n x s lv)++V)) (fun q=>n.paths.length - q) 0 ?_ ⟨Nat.zero_le _,Y,rfl,by rw [Nat.sub_zero,← List.range_eq_range'];exact hY⟩ ?_
         ·try simp only [go_sem]
          refine weA ?_ ?_ <;> simp
         ·rintro k q ⟨hq,Y,rfl,hY⟩
          simp only [go_sem]
          repeat (first | refine nx ?_ | (refine z3 fun K hK=>?_;simp only [go_sem];apply hK;clear hK K))
          refine z5 rfl (fun hkb=>?_) (fun hkb=>?_)
          ·have hkl:q<n.paths.length:=by simpa using hkb
           have hkw:IntKind.i64.wrap ((q:Int) + 1)=((q + 1:Nat):Int):=by rw [z9 (by omega)];simp
           obtain ⟨y,hy⟩:∃ y,n.paths[q]?=some y:=⟨_,List.getElem?_eq_getElem hkl⟩
           obtain ⟨ks,vs,cc,hT,hlook⟩:=z418 n x.party hy
           have c2:(huntC n x)[2]?=some (.mp none ks vs cc):=by rw [← hT];rfl
           rw [show n.paths.length - q=(n.paths.length - (q + 1)) + 1 by omega,List.range'_succ,List.filterMap_cons] at hY
           rcases hlook with ⟨hg,fq,fb,hf⟩ | ⟨hg,hf⟩
           ·by_cases hfr:y.frm=s.pl
            ·have hne:(y.frm == s.pl)=true:=by simpa using hfr
             have heo:endOn n x s lv q=some ⟨s.pl,s.mi,q,lv⟩:=by rw [endOn,hy];dsimp only;rw [if_pos ⟨hg,hfr⟩]
             rw [heo] at hY
             dsimp only at hY
             rw [List.cons_append] at hY
             repeat (first | refine nx ?_ | (refine z3 fun K hK=>?_;simp only [go_sem,hy,List.getElem?_map,Path.row,c2,hf,Span.row];apply hK;clear hK K))
             refine z146 hG1 [] fun K hK=>?_
             simp only [go_sem,hne]
             refine ⟨rfl,Y.length,_,rfl,rfl,rfl,z453 hY,?_,?_⟩
             ·simp only [go_sem]
              refine hK _ _ ?_
              clear hK K
              refine z6 rfl ?_
              repeat (first | refine nx ?_ | (refine z3 fun K hK=>?_;simp only [go_sem,hkw];apply hK;clear hK K))
              refine ⟨q + 1,?_,⟨hkl,Y++[⟨s.pl,s.mi,q,lv⟩],by simp,by rw [hY];simp⟩,by omega⟩
              try simp only [go_sem]
              refine weA ?_ ?_ <;> simp
             ·simp only [go_sem]
              refine hK _ _ ?_
              clear hK K
              refine z11 rfl ?_
              repeat (first | refine nx ?_ | (refine z3 fun K hK=>?_;simp only [go_sem];apply hK;clear hK K))
              refine ⟨rfl,(),?_,rfl,rfl⟩
              try simp only [go_sem]
              refine weA ?_ ?_ <;> simp
            ·have hne:(y.frm == s.pl)=false:=by simpa using hfr
             have heo:endOn n x s lv q=none:=by rw [endOn,hy];dsimp only;rw [if_neg (fun hc=>hfr hc.2)]
             rw [heo] at hY
             dsimp only at hY
             repeat (first | refine nx ?_ | (refine z3 fun K hK=>?_;simp only [go_sem,hy,List.getElem?_map,Path.row,c2,hf,Span.row];apply hK;clear hK K))
             refine z146 hG1 [] fun K hK=>?_
             simp only [go_sem,hne]
             refine hK _ _ ?_
             clear hK K
             refine z6 rfl ?_
             repeat (first | refine nx ?_ | (refine z3 fun K hK=>?_;simp only [go_sem,hkw];apply hK;clear hK K))
             refine ⟨q + 1,?_,⟨hkl,Y,rfl,hY⟩,by omega⟩
             try simp only [go_sem]
             refine weA ?_ ?_ <;> simp
           ·have heo:endOn n x s lv q=none:=by rw [endOn,hy];dsimp only;rw [if_neg (fun hc=>hg hc.1)]
            rw [heo] at hY
            dsimp only at hY
            repeat (first | refine nx ?_ | (refine z3 fun K hK=>?_;simp only [go_sem,hy,List.getElem?_map,Path.row,c2,hf];apply hK;clear hK K))
            refine z6 rfl ?_
            repeat (first | refine nx ?_ | (refine z3 fun K hK=>?_;simp only [go_sem,hkw];apply hK;clear hK K))
            refine ⟨q + 1,?_,⟨hkl,Y,rfl,hY⟩,by omega⟩
            try simp only [go_sem]
            refine weA ?_ ?_ <;> simp
          ·have he:q=n.paths.length:=by (have:¬ q<n.paths.length:=by simpa using hkb);omega
           subst he
           rw [Nat.sub_self,List.range'_zero,List.filterMap_nil,List.nil_append] at hY
           repeat (first | refine nx ?_ | (refine z3 fun K hK=>?_;simp only [go_sem];apply hK;clear hK K))
           refine ⟨(),?_,Y,rfl,by rw [hY,hV]⟩
           try simp only [go_sem]
           refine weA ?_ ?_ <;> simp
      ·rintro k' _ ⟨Y,rfl,hY⟩
       rw [minRows,List.length_map,List.drop_length,List.flatMap_nil,List.nil_append] at hY
       simp only [go_sem]
       repeat (first | refine nx ?_ | (refine z3 fun K hK=>?_;simp only [go_sem,hw];apply hK;clear hK K))
       refine ⟨i + 1,?_,⟨hlt,Y,rfl,by rw [hY,hZ]⟩,by omega⟩
       try simp only [go_sem]
       refine weA ?_ ?_ <;> simp
      ·rintro e k' _ ⟨rfl,rfl⟩ _
       repeat (first | refine z111 ?_ | refine z132 ?_)
       exact ⟨trivial,.inr rfl⟩
     ·rintro e k' _ ⟨rfl,rfl⟩ _
      repeat (first | refine z111 ?_ | refine z132 ?_)
      exact ⟨trivial,.inr rfl⟩
    ·have he:i=A.length:=by (have:¬ i<A.length:=by simpa using hb);omega
     subst he
     rw [List.drop_length,List.flatMap_nil,List.append_nil] at hX
     repeat (first | refine nx ?_ | (refine z3 fun K hK=>?_;simp only [go_sem];apply hK;clear hK K))
     exact ⟨trivial,.inl (by rw [hX,endRows,List.length_map])⟩
end Go.Ab
namespace Go.Ab
open Go.RowKit Go.Proofs
set_option maxHeartbeats 16000000
set_option maxRecDepth 20000
attribute [local irreducible] WalkL Walk
def posL (l:List Int):List Int:=selL (fun i=>decide (getI l i > 0)) l.length
theorem z1109 {q:Nat→Bool} {k:Nat} (h:selL q k=[]) {i:Nat} (hi:i<k):q i=false:=by
 cases hq:q i
 ·rfl
 ·exfalso
  have:(i:Int) ∈ selL q k:=List.mem_map.2 ⟨i,List.mem_filter.2 ⟨List.mem_range.2 hi,hq⟩,rfl⟩
  rw [h] at this
  simp at this
theorem z1173 (l:List Int) (hl:l.length<2 ^ 30) (hp:posL l=[]):Fn Tryd.prog 51 [.sl (intRows l)] .nilsl:=by
 have hrl:=z14 l
 refine z1154 20 Tryd.call51 Tryd.func51 rfl (by decide) fun J=>?_
 simp only [go_sem,St.start,Tryd.ntmps51,Tryd.results51]
 repeat (first | refine nx ?_ | (refine z3 fun K hK=>?_;simp only [go_sem,hrl];apply hK;clear hK K))
 refine z13 (fun (i:Nat)=>[(7,.d (.i i)),(2,.nil)]) (fun _=>[]) (fun i=>i≤l.length) (fun i=>l.length - i) 0 ?_ (Nat.zero_le _) ?_
 ·simp only [go_sem]
  refine weA ?_ ?_ <;> simp
 ·intro i hi
  simp only [go_sem]
  repeat (first | refine nx ?_ | (refine z3 fun K hK=>?_;simp only [go_sem];apply hK;clear hK K))
  refine z5 rfl (fun hb=>?_) (fun hb=>?_)
  ·have hlt:i<l.length:=by simpa using hb
   have hw:IntKind.i64.wrap ((i:Int) + 1)=((i + 1:Nat):Int):=by rw [z9 (by omega)];simp
   have hg:(intRows l)[i]?=some [.i (getI l i)]:=by simpa using z81 (l:=l) (i:=(i:Int)) (by omega) (by simpa using hlt)
   have hil:i<(intRows l).length:=by omega
   have hq:=z1109 hp hlt
   repeat (first | refine nx ?_ | (refine z3 fun K hK=>?_;simp only [go_sem,hg,hil,hq];apply hK;clear hK K))
   refine z6 rfl ?_
   repeat (first | refine nx ?_ | (refine z3 fun K hK=>?_;simp only [go_sem,hw];apply hK;clear hK K))
   refine ⟨rfl,i + 1,?_,hlt,by omega⟩
   try simp only [go_sem]
   refine weA ?_ ?_ <;> simp
  ·have he:i=l.length:=by (have:¬ i<l.length:=by simpa using hb);omega
   subst he
   repeat (first | refine nx ?_ | (refine z3 fun K hK=>?_;simp only [go_sem];apply hK;clear hK K))
   simp only [go_sem,retN]
theorem z1172 (l:List Int) (hl:l.length<2 ^ 30):FnS Tryd.prog 51 [.sl (intRows l)] 3 1 (intRows (posL l)):=by
 have hrl:=z14 l
 refine z289 24 Tryd.call51 Tryd.func51 rfl (by decide) fun J=>?_
 simp only [go_sem,St.start,Tryd.ntmps51,Tryd.results51,]
 repeat (first | refine nx ?_ | (refine z3 fun K hK=>?_;simp only [go_sem,hrl];apply hK;clear hK K))
 refine z13 (fun (i:Nat)=>[(7,.d (.i i)),(2,.own 22)]) (fun i=>[(22,some (.arr 3 1 (intRows (selL (fun j=>decide (getI l j > 0)) i))))]) (fun i=>i≤l.length) (fun i=>l.length - i) 0 ?_ (Nat.zero_le _) ?_
 ·simp only [go_sem]
  refine z61 [22] ?_ ?_ ?_ ?_
  ·simp [lessT,z136,AV.less]
  ·simp [lessM,lessB,lessT,z136,AV.less,selL,intRows]
  ·first | rfl | simp [liveB,AV.refs,AV.refs.AV.refss,selL,intRows]
  ·first | rfl | simp [liveM,liveB,AV.refs,AV.refs.AV.refss,selL,intRows]
 ·intro i hi
  have hsl:=z1110 (fun j=>decide (getI l j > 0)) i
  have hs1:=z1027 (fun j=>decide (getI l j > 0)) i
  have hr39:(intRows (selL (fun j=>decide (getI l j > 0)) i)).length≤549755813887:=by rw [z14];omega
  simp only [go_sem]
  repeat (first | refine nx ?_ | (refine z3 fun K hK=>?_;simp only [go_sem];apply hK;clear hK K))
  refine z5 rfl (fun hb=>?_) (fun hb=>?_)
  ·have hlt:i<l.length:=by simpa using hb
   have hw:IntKind.i64.wrap ((i:Int) + 1)=((i + 1:Nat):Int):=by rw [z9 (by omega)];simp
   have hg:(intRows l)[i]?=some [.i (getI l i)]:=by simpa using z81 (l:=l) (i:=(i:Int)) (by omega) (by simpa using hlt)
   have hil:i<(intRows l).length:=by omega
   by_cases hq:getI l i > 0
   ·have hq:decide (getI l i > 0)=true:=decide_eq_true hq
    rw [hq,if_pos rfl] at hs1
    repeat (first | refine nx ?_ | (refine z3 fun K hK=>?_;simp only [go_sem,hg,hil,hq];apply hK;clear hK K))
    refine z11 rfl ?_
    repeat (first | refine nx ?_ | (refine z3 fun K hK=>?_;simp only [go_sem,hr39,hw];apply hK;clear hK K))
    refine ⟨rfl,i + 1,?_,hlt,by omega⟩
    try simp only [go_sem,hs1,intRows,List.map_append,List.map_cons,List.map_nil]
    refine weA ?_ ?_ <;> simp
   ·have hq:decide (getI l i > 0)=false:=decide_eq_false hq
    rw [hq] at hs1
    simp only [Bool.false_eq_true,if_false,List.append_nil] at hs1
    repeat (first | refine nx ?_ | (refine z3 fun K hK=>?_;simp only [go_sem,hg,hil,hq];apply hK;clear hK K))
    refine z6 rfl ?_
    repeat (first | refine nx ?_ | (refine z3 fun K hK=>?_;simp only [go_sem,hw];apply hK;clear hK K))
    refine ⟨rfl,i + 1,?_,hlt,by omega⟩
    try simp only [go_sem,hs1]
    refine weA ?_ ?_ <;> simp
  ·have he:i=l.length:=by (have:¬ i<l.length:=by simpa using hb);omega
   subst he
   repeat (first | refine nx ?_ | (refine z3 fun K hK=>?_;simp only [go_sem];apply hK;clear hK K))
   simp only [go_sem,posL]
end Go.Ab
namespace Go.Ab
open Go.RowKit Go.Proofs
set_option maxHeartbeats 16000000
set_option maxRecDepth 20000
attribute [local irreducible] WalkL Walk
def bump1 (l:List Int) (i:Int):List Int:=l.set i.toNat (wr (getI l i + 1))
def tally (a:List Int × List Int) (e:EndT):List Int × List Int:=if e.pa<0 then (bump1 a.1 e.pl,a.2) else (a.1,bump1 a.2 e.pa)
def tallyE (n:Net) (E:List EndT):List Int × List Int:=E.foldl tally (List.replicate n.places.toNat 0,List.replicate n.paths.length 0)
def huntedA (n:Net) (x:Missed):List Arv:=(followF n x (boundN n x + 1) 0 (startA x,[])).1
def whereP (n:Net) (x:Missed):List Int:=posL (tallyE n (endsL n x (huntedA n x))).1
def whereW (n:Net) (x:Missed):List Int:=posL (tallyE n (endsL n x (huntedA n x))).2
def whereC (n:Net) (x:Missed):List Int × List Int × Int :=
 if openX n x≠0 then ([],[],openX n x) else if whereP n x=[]∧whereW n x=[] then ([],[],3) else (whereP n x,whereW n x,0)
def whereD (n:Net) (x:Missed):DV:=.tup [.sl (intRows (whereC n x).1),.sl (intRows (whereC n x).2.1),.i (whereC n x).2.2]
theorem z1085 (l:List Int) (i:Int):(bump1 l i).length=l.length:=by simp [bump1]
theorem z552 (a:List Int × List Int) (e:EndT):(tally a e).1.length=a.1.length∧(tally a e).2.length=a.2.length:=by
 rw [tally];split <;> simp [z1085]
theorem z234:∀ (E:List EndT) (a:List Int × List Int),(E.foldl tally a).1.length=a.1.length∧(E.foldl tally a).2.length=a.2.length
 | [],a=>⟨rfl,rfl⟩
 | e::E,a=>by
  have h:=z234 E (tally a e)
  rw [(z552 a e).1,(z552 a e).2] at h
  exact h
theorem z837 {n:Net} {x:Missed} (hl:x.clues.length<2 ^ 30) (h:openX n x=0):Hunted n x:=by
 have hc:checkPartyF n x.party=0:=by
  rw [openX] at h
  split at h
  ·rename_i h1;exact absurd h h1
  ·rename_i h1;exact Classical.not_not.1 h1
 have hb:badHunt n x=false:=by
  cases hb:badHunt n x
  ·rfl
  ·simp [openX,hc,hb] at h
 have hn:¬ badNet n=true:=fun hb=>by rw [checkPartyF,if_pos hb] at hc;simp at hc
 have hp:¬ badParty x.party=true:=fun hb=>by rw [checkPartyF,if_neg hn,if_pos hb] at hc;simp at hc
 simp only [badHunt,Bool.or_eq_false_iff,Bool.not_eq_false',z17] at hb
 obtain ⟨h1,h2,h3,h4⟩:=hb
 exact ⟨z157.1 hn,z178.1 hp,⟨h1.1,by omega⟩,⟨h2.1,h4.1⟩,h4.2,h3,hl⟩
theorem z443 {n:Net} {x:Missed} {lo hi:Int} {mk:Int→Arv} (hmk:∀ t,(0≤(mk t).pl∧(mk t).pl<n.places)∧(mk t).mi=t):∀ {ws:List (Int × Bool)} {A:List Arv},(∀ w ∈ ws,x.start≤w.1∧w.1≤x.now)→goodA n x A→goodA n x (walkA x.clues lo hi mk ws A)
 | [],A,_,hA=>hA
 | w::ws,A,hw,hA=>by
  rw [walkA]
  split
  ·exact hA
  ·refine z443 hmk (fun v hv=>hw v (by simp [hv])) ?_
   split
   ·have:=hmk w.1
    exact z122 hA ⟨this.1,by rw [this.2];exact (hw w (by simp))⟩
   ·exact hA
theorem z980 {n:Net} {x:Missed} (hx:Hunted n x) {p m lv:Int} {A:List Arv} {k:Nat} (hlv:x.start≤lv) (hA:goodA n x A):goodA n x (pathA n x p m lv A k):=by
 rw [pathA]
 split
 ·rename_i y hy
  split
  ·refine z443 (fun t=>⟨(hx.net.path y (List.mem_of_getElem? hy)).to,rfl⟩) (fun w hw=>?_) hA
   have:=z259 hw
   omega
  ·exact hA
 ·exact hA
theorem z850 {n:Net} {x:Missed} (hx:Hunted n x) {p m lv:Int} {a:List Arv × List Cnt} (hlv:x.start≤lv) (hA:goodA n x a.1):goodA n x (leaveA n x p m a lv).1:=by
 rw [leaveA]
 split
 ·exact hA
 ·rw [pathsA]
  have:∀ (l:List Nat) (A:List Arv),goodA n x A→goodA n x (l.foldl (pathA n x p m lv) A):=fun l=>by
   induction l with
   | nil=>exact fun A h=>h
   | cons k l ih=>exact fun A h=>ih _ (z980 hx hlv h)
  exact this _ _ hA
theorem z979 {n:Net} {x:Missed} (hx:Hunted n x) {s:Arv} {a:List Arv × List Cnt} (hs:x.start≤s.mi) (hA:goodA n x a.1):goodA n x (spotA n x s a).1:=by
 rw [spotA]
 have:∀ (l:List Int) (a:List Arv × List Cnt),(∀ v ∈ l,x.start≤v)→goodA n x a.1→goodA n x (l.foldl (leaveA n x s.pl s.mi) a).1:=fun l=>by
  induction l with
  | nil=>exact fun a _ h=>h
  | cons k l ih=>exact fun a hl h=>ih _ (fun v hv=>hl v (by simp [hv])) (z850 hx (hl k (by simp)) h)
 exact this _ _ (fun v hv=>by have:=z267 hv;omega) hA
theorem z278 {n:Net} {x:Missed} (hx:Hunted n x):∀ (f i:Nat) (a:List Arv × List Cnt),goodA n x a.1→goodA n x (followF n x f i a).1
 | 0,_,a,h=>h
 | f + 1,i,a,h=>by
  rw [followF]
  split
  ·rename_i s hs
   exact z278 hx f _ _ (z979 hx (h.1 s (List.mem_of_getElem? hs)).2.1 h)
  ·exact h
theorem z852 {n:Net} {x:Missed} (hx:Hunted n x):goodA n x (huntedA n x) :=
 z278 hx _ _ _ (z122 ⟨fun a ha=>(by simp at ha),by simp⟩ ⟨hx.place,Int.le_refl _,hx.start.2⟩)
theorem z986 {n:Net} {x:Missed} {A:List Arv} (hA:goodA n x A) {e:EndT} (h:e ∈ endsL n x A):(0≤e.pl∧e.pl<n.places)∧(e.pa<0∨0≤e.pa∧e.pa.toNat<n.paths.length):=by
 rw [endsL] at h
 obtain ⟨s,hs,h⟩:=List.mem_flatMap.1 h
 have hg:=(hA.1 s hs).1
 rw [endOf8] at h
 rcases List.mem_append.1 h with h | h
 ·obtain ⟨m,_,hm⟩:=List.mem_filterMap.1 h
  rw [endIn] at hm
  split at hm
  ·cases hm;exact ⟨hg,.inl (show (-1:Int)<0 by decide)⟩
  ·cases hm
 ·obtain ⟨lv,_,hm⟩:=List.mem_flatMap.1 h
  rw [endLv] at hm
  split at hm
  ·simp at hm
  ·obtain ⟨k,hk,hm⟩:=List.mem_filterMap.1 hm
   rw [endOn] at hm
   split at hm
   ·split at hm
    ·cases hm;exact ⟨hg,.inr ⟨Int.natCast_nonneg k,by simpa using List.mem_range.1 hk⟩⟩
    ·cases hm
   ·cases hm
theorem z1038 {h:DV} {A:List Arv}:∃ b,reify ((trkM h A).map some) Ab.deep (.box 0 0)=some (.ptr [h,b,.sl (arvRows A)] 0):=by
 refine ⟨_,rfl⟩
theorem z1325 (n:Net) (x:Missed) (hs:n.Small) (hl:x.clues.length<2 ^ 30):Fn Tryd.prog 15 [.agg n.cells,.agg x.row] (whereD n x):=by
 have h38:=z1318 n x hs hl
 rw [Net.cells,Missed.row] at h38
 refine z10 61 Tryd.call15 Tryd.func15 rfl (by decide) fun J=>?_
 simp only [go_sem,St.start,Tryd.ntmps15,Tryd.results15,Net.cells,Missed.row]
 by_cases hok:openX n x=0
 ·have hx:=z837 hl hok
  rw [openD,if_pos hok,hok] at h38
  obtain ⟨A,hA⟩:∃ A,A=huntedA n x:=⟨_,rfl⟩
  have hgA:goodA n x A:=hA ▸ z852 hx
  have g39:=z1317 n x hx
  rw [← huntedA,← hA] at g39
  obtain ⟨b,hb⟩:=z1038 (h:=.ptr (huntC n x) 0) (A:=A)
  have h39:=FnG.deep (args:=[.ptr (huntC n x) 0]) g39 hb
  have hit:=z1231 n x hx A b hgA
  have hpl:=hx.net.places
  have hpt:=hx.net.paths
  repeat (first | refine nx ?_ | (refine z3 fun K hK=>?_;simp only [go_sem];(repeat (first | (refine ⟨_,.lent (hf:=h38) (hd:=rfl) (hr:=rfl),?_⟩;simp only [go_sem]) | (refine ⟨_,.given (hf:=h38) (hd:=rfl) (ha:=rfl),?_⟩;simp only [go_sem])));apply hK;clear hK K))
  refine z6 rfl ?_
  repeat (first | refine nx ?_ | (refine z3 fun K hK=>?_;simp only [go_sem];apply hK;clear hK K))
  obtain ⟨m,hm⟩:∃ m:Nat,n.places=m:=⟨n.places.toNat,by omega⟩
  obtain ⟨E,hE⟩:∃ E,E=endsL n x A:=⟨_,rfl⟩
  rw [← hE] at hit
  have hrep:∀ k,List.replicate k [DV.int .i64 0]=intRows (List.replicate k 0):=fun k=>by simp [intRows]
  have q1:(m:Int)≤1099511627776:=by omega
  have q2:(n.paths.length:Int)≤1099511627776:=by omega
  have q3:¬ ((m:Int)<0):=by omega
  refine z7 (by kernel_rfl) (by kernel_rfl) fun K hK=>?_
  simp only [go_sem,hm,q1,q2,q3,hrep,List.length_map,true_and]
  refine ⟨by kernel_rfl,hK _ ?_⟩
  clear hK K
  repeat (first | refine nx ?_ | (refine z3 fun K hK=>?_;simp only [go_sem];(repeat (first | (refine ⟨_,.lent (hf:=h39) (hd:=rfl) (hr:=rfl),?_⟩;simp only [go_sem]) | (refine ⟨_,.given (hf:=h39) (hd:=rfl) (ha:=rfl),?_⟩;simp only [go_sem])));apply hK;clear hK K))
  refine z168 rfl hit (by intro row hr;obtain ⟨w,_,rfl⟩:=List.mem_map.1 hr;rfl) (fun _=>[]) (fun (a:List Int × List Int)=>[(22,some (.arr 3 1 (intRows a.1))),(26,some (.arr 3 1 (intRows a.2)))])
   (fun k' j a=>k'=some 0∧a=(E.take j).foldl tally (List.replicate m 0,List.replicate n.paths.length 0)) (fun _ _ _=>False) (List.replicate m 0,List.replicate n.paths.length 0) ?_ ⟨rfl,by simp⟩ ?_ ?_ (fun _ _ _ h=>h.elim)
  ·simp only [go_sem]
   refine weA ?_ ?_ <;> simp
  ·rintro X0 W0 k' j a row hj ⟨rfl,ha⟩ l1 m1
   obtain ⟨e,he,rfl⟩:∃ e,E[j]?=some e∧row=[.agg e.row]:=by
    simp only [endRows,List.getElem?_map,Option.map_eq_some_iff] at hj
    obtain ⟨e,h1,h2⟩:=hj
    exact ⟨e,h1,h2.symm⟩
   have hr:=z986 hgA (hE ▸ List.mem_of_getElem? he)
   have ha':(E.take (j + 1)).foldl tally (List.replicate m 0,List.replicate n.paths.length 0)=tally a e:=by rw [z36 _ _ _ _ _ he,← ha]
   have hl:=z234 (E.take j) (List.replicate m 0,List.replicate n.paths.length 0)
   rw [← ha] at hl
   simp only [List.length_replicate] at hl
   have hil:=z14 a.1
   have hil2:=z14 a.2
   rw [hl.1] at hil
   rw [hl.2] at hil2
   simp only [go_sem,EndT.row]
   by_cases hp:e.pa<0
   ·have hpb:decide (e.pa<0)=true:=decide_eq_true hp
    have h0:0≤e.pl:=hr.1.1
    have h1:e.pl.toNat<m:=by omega
    have hg:=z81 (l:=a.1) (i:=e.pl) hr.1.1 (by omega)
    repeat (first | refine nx ?_ | (refine z3 fun K hK=>?_;simp only [go_sem,hpb];apply hK;clear hK K))
    refine z11 rfl ?_
    repeat (first | refine nx ?_ | (refine z3 fun K hK=>?_;simp only [go_sem,hil,h0,h1,hg,z52];apply hK;clear hK K))
    refine ⟨(bump1 a.1 e.pl,a.2),?_,rfl,by rw [ha',tally,if_pos hp]⟩
    rw [bump1]
    refine weA ?_ ?_ <;> simp
   ·have hpb:decide (e.pa<0)=false:=decide_eq_false hp
    have h0:0≤e.pa:=by omega
    have h1:e.pa.toNat<n.paths.length:=by rcases hr.2 with h | h <;> omega
    have hg:=z81 (l:=a.2) (i:=e.pa) (by omega) (by omega)
    repeat (first | refine nx ?_ | (refine z3 fun K hK=>?_;simp only [go_sem,hpb];apply hK;clear hK K))
    refine z6 rfl ?_
    repeat (first | refine nx ?_ | (refine z3 fun K hK=>?_;simp only [go_sem,hil2,h0,h1,hg,z52];apply hK;clear hK K))
    refine ⟨(a.1,bump1 a.2 e.pa),?_,rfl,by rw [ha',tally,if_neg hp]⟩
    rw [bump1]
    refine weA ?_ ?_ <;> simp
  ·rintro k' a ⟨rfl,ha⟩
   rw [endRows,List.length_map,List.take_length] at ha
   have ht:tallyE n (endsL n x (huntedA n x))=a:=by rw [tallyE,← hA,← hE,ha,hm];rfl
   have hl:=z234 E (List.replicate m 0,List.replicate n.paths.length 0)
   rw [← ha] at hl
   simp only [List.length_replicate] at hl
   have hP:whereP n x=posL a.1:=by rw [whereP,ht]
   have hW:whereW n x=posL a.2:=by rw [whereW,ht]
   simp only [go_sem]
   repeat (first | refine z27 ?_ | refine z42 ?_ | refine z8 ?_ | refine z210 ?_ | refine z101 ?_ | refine z64 ?_ | refine z125 rfl ?_ | refine z111 ?_ | refine z58 ?_ | refine z132 ?_ | refine z103 ?_ | refine z4 ?_)
   have nz:∀ l:List Int,l≠[]→(intRows l).isEmpty=false:=fun l h=>by cases l <;> simp_all [intRows]
   by_cases p1:posL a.1=[]
   ·have zf1:=z1173 a.1 (by omega) p1
    by_cases p2:posL a.2=[]
    ·have zf2:=z1173 a.2 (by omega) p2
     have hw:whereD n x=.tup [.sl [],.sl [],.i 3]:=by rw [whereD,whereC,if_neg (fun h=>h hok),if_pos ⟨by rw [hP,p1],by rw [hW,p2]⟩];rfl
     rw [hw]
     refine z7 (by kernel_rfl) (by kernel_rfl) fun K hK=>?_
     simp only [go_sem]
     refine ⟨_,.fn (hf:=zf1) (hd:=rfl) (hr:=.inl rfl),?_⟩
     simp only [go_sem]
     refine ⟨_,.fn (hf:=zf2) (hd:=rfl) (hr:=.inl rfl),?_⟩
     simp only [go_sem]
     refine ⟨by kernel_rfl,hK _ ?_⟩
     clear hK K
     repeat (first | refine nx ?_ | (refine z3 fun K hK=>?_;simp only [go_sem];apply hK;clear hK K))
     refine z11 rfl ?_
     repeat (first | refine nx ?_ | (refine z3 fun K hK=>?_;simp only [go_sem];apply hK;clear hK K))
     simp only [go_sem,retN]
    ·have zf2:=z1172 a.2 (by omega)
     have hw:whereD n x=.tup [.sl [],.sl (intRows (posL a.2)),.i 0]:=by rw [whereD,whereC,if_neg (fun h=>h hok),if_neg (fun h=>p2 (by rw [← hW,h.2])),hP,p1,hW];rfl
     rw [hw]
     refine z7 (by kernel_rfl) (by kernel_rfl) fun K hK=>?_
     simp only [go_sem]
     refine ⟨_,.fn (hf:=zf1) (hd:=rfl) (hr:=.inl rfl),?_⟩
     simp only [go_sem]
     refine ⟨_,.fnS (hdst:=rfl) (hf:=zf2) (hd:=rfl) (hr:=.inl (z91 _)) (hfr:=rfl),?_⟩
     simp only [go_sem]
     refine ⟨by kernel_rfl,hK _ ?_⟩
     clear hK K
     refine z96 [52] ?_
     simp only [go_sem]
     repeat (first | refine nx ?_ | (refine z3 fun K hK=>?_;simp only [go_sem,nz _ p2];apply hK;clear hK K))
     refine z6 rfl ?_
     refine z42 ?_
     refine z415 4 ?_
     simp only [go_sem]
     repeat (first | refine nx ?_ | (refine z3 fun K hK=>?_;simp only [go_sem];apply hK;clear hK K))
     simp only [go_sem,retN]
   ·have zf1:=z1172 a.1 (by omega)
    by_cases p2:posL a.2=[]
    ·have zf2:=z1173 a.2 (by omega) p2
     have hw:whereD n x=.tup [.sl (intRows (posL a.1)),.sl [],.i 0]:=by rw [whereD,whereC,if_neg (fun h=>h hok),if_neg (fun h=>p1 (by rw [← hP,h.1])),hP,hW,p2];rfl
     rw [hw]
     refine z7 (by kernel_rfl) (by kernel_rfl) fun K hK=>?_
     simp only [go_sem]
     refine ⟨_,.fnS (hdst:=rfl) (hf:=zf1) (hd:=rfl) (hr:=.inl (z91 _)) (hfr:=rfl),?_⟩
     simp only [go_sem]
     refine ⟨_,.fn (hf:=zf2) (hd:=rfl) (hr:=.inl rfl),?_⟩
     simp only [go_sem]
     refine ⟨by kernel_rfl,hK _ ?_⟩
     clear hK K
     refine z96 [50] ?_
     simp only [go_sem]
     repeat (first | refine nx ?_ | (refine z3 fun K hK=>?_;simp only [go_sem,nz _ p1];apply hK;clear hK K))
     refine z6 rfl ?_
     refine z42 ?_
     refine z415 5 ?_
     simp only [go_sem]
     repeat (first | refine nx ?_ | (refine z3 fun K hK=>?_;simp only [go_sem];apply hK;clear hK K))
     simp only [go_sem,retN]
    ·have zf2:=z1172 a.2 (by omega)
     have hw:whereD n x=.tup [.sl (intRows (posL a.1)),.sl (intRows (posL a.2)),.i 0]:=by rw [whereD,whereC,if_neg (fun h=>h hok),if_neg (fun h=>p1 (by rw [← hP,h.1])),hP,hW]
     rw [hw]
     refine z7 (by kernel_rfl) (by kernel_rfl) fun K hK=>?_
     simp only [go_sem]
     refine ⟨_,.fnS (hdst:=rfl) (hf:=zf1) (hd:=rfl) (hr:=.inl (z91 _)) (hfr:=rfl),?_⟩
     simp only [go_sem]
     refine ⟨_,.fnS (hdst:=rfl) (hf:=zf2) (hd:=rfl) (hr:=.inl (z91 _)) (hfr:=rfl),?_⟩
     simp only [go_sem]
     refine ⟨by kernel_rfl,hK _ ?_⟩
     clear hK K
     refine z96 [50,52] ?_
     simp only [go_sem]
     repeat (first | refine nx ?_ | (refine z3 fun K hK=>?_;simp only [go_sem,nz _ p1,nz _ p2];apply hK;clear hK K))
     refine z6 rfl ?_
     repeat (first | refine nx ?_ | (refine z3 fun K hK=>?_;simp only [go_sem];apply hK;clear hK K))
     simp only [go_sem,retN]
 ·rw [openD,if_neg hok] at h38
  have hne:(openX n x != 0)=true:=by simpa using hok
  have hw:whereD n x=.tup [.sl [],.sl [],.i (openX n x)]:=by rw [whereD,whereC,if_pos hok];rfl
  rw [hw]
  repeat (first | refine nx ?_ | (refine z3 fun K hK=>?_;simp only [go_sem,hne];(repeat (first | (refine ⟨_,.lent (hf:=h38) (hd:=rfl) (hr:=rfl),?_⟩;simp only [go_sem,hne]) | (refine ⟨_,.given (hf:=h38) (hd:=rfl) (ha:=rfl),?_⟩;simp only [go_sem,hne])));apply hK;clear hK K))
  refine z11 rfl ?_
  repeat (first | refine nx ?_ | (refine z3 fun K hK=>?_;simp only [go_sem];apply hK;clear hK K))
  simp only [go_sem,retN]
end Go.Ab
namespace Go.Ab
open Go.RowKit Go.Proofs
set_option maxRecDepth 100000
deriving instance DecidableEq for Arv
deriving instance DecidableEq for Cnt
def goF (n:Net) (x:Missed):Nat→Nat→List Arv × List Cnt→List Arv × List Cnt
 | 0,_,a=>a
 | k + 1,i,a=>match a.1[i]? with
  | some s=>goF n x k (i + 1) (spotA n x s a)
  | none=>a
theorem z279 {n:Net} {x:Missed} {i:Nat} {a:List Arv × List Cnt} (h:a.1[i]?=none):∀ f,followF n x f i a=a
 | 0=>rfl
 | f + 1=>by rw [followF,h]
theorem z28 {n:Net} {x:Missed}:∀ (k i f:Nat) (a:List Arv × List Cnt),followF n x (f + k) i a=followF n x f (i + k) (goF n x k i a)
 | 0,i,f,a=>rfl
 | k + 1,i,f,a=>by
  rw [show f + (k + 1)=(f + k) + 1 by omega,followF,goF]
  cases h:a.1[i]? with
  | some s=>dsimp only;rw [z28 k (i + 1) f,show i + 1 + k=i + (k + 1) by omega]
  | none=>dsimp only;rw [z279 (List.getElem?_eq_none (by have:=List.getElem?_eq_none_iff.1 h;omega))]
def ex0:List Arv × List Cnt:=([⟨0,300,0,0,-1,0⟩],[])
def ex8:List Arv × List Cnt:=([⟨0,300,0,0,-1,0⟩,⟨1,400,0,300,0,300⟩,⟨1,401,0,300,0,300⟩,⟨1,402,0,300,0,300⟩,⟨1,403,0,300,0,300⟩,⟨1,404,0,300,0,300⟩,⟨1,405,0,300,0,300⟩,⟨1,406,0,300,0,300⟩,⟨1,407,0,300,0,300⟩,⟨1,408,0,300,0,300⟩,⟨1,409,0,300,0,300⟩,⟨1,410,0,300,0,300⟩,⟨1,411,0,300,0,300⟩,⟨1,412,0,300,0,300⟩,⟨1,413,0,300,0,300⟩,⟨1,414,0,300,0,300⟩,⟨1,415,0,300,0,300⟩,⟨1,416,0,300,0,300⟩,⟨1,417,0,300,0,300⟩,⟨1,418,0,300,0,300⟩,⟨1,419,0,300,0,300⟩,⟨1,420,0,300,0,300⟩,⟨2,492,1,400,1,420⟩,⟨2,493,1,400,1,420⟩,⟨2,494,1,400,1,420⟩,⟨2,495,1,400,1,420⟩,⟨2,496,1,400,1,420⟩,⟨2,497,1,400,1,420⟩,⟨2,498,1,400,1,420⟩,⟨2,499,1,400,1,420⟩,⟨2,501,1,400,1,420⟩,⟨2,502,1,400,1,420⟩,⟨2,503,1,400,1,420⟩,⟨2,504,1,400,1,420⟩,⟨2,505,1,400,1,420⟩,⟨2,506,1,400,1,420⟩,⟨2,507,1,400,1,420⟩,⟨2,508,1,400,1,420⟩,⟨2,509,1,400,1,420⟩,⟨2,510,1,400,1,420⟩,⟨2,511,1,400,1,420⟩,⟨2,512,1,400,1,420⟩,⟨2,513,1,400,1,420⟩,⟨2,514,1,400,1,420⟩,⟨2,515,1,400,1,420⟩,⟨2,516,1,400,1,420⟩,⟨2,517,1,400,1,420⟩,⟨2,518,1,400,1,420⟩,⟨2,519,1,400,1,420⟩,⟨2,520,1,400,1,420⟩,⟨2,521,1,400,1,420⟩,⟨2,522,1,400,1,420⟩,⟨2,523,1,400,1,420⟩,⟨2,524,1,400,1,420⟩,⟨2,525,1,400,1,420⟩,⟨2,526,1,400,1,420⟩,⟨2,527,1,400,1,420⟩,⟨2,528,1,400,1,420⟩,⟨2,529,1,400,1,420⟩,⟨2,530,1,400,1,420⟩,⟨2,531,1,400,1,420⟩,⟨2,532,1,400,1,420⟩,⟨2,533,1,400,1,420⟩,⟨2,534,1,400,1,420⟩,⟨2,535,1,400,1,420⟩,⟨2,536,1,400,1,420⟩,⟨2,537,1,400,1,420⟩,⟨2,538,1,400,1,420⟩,⟨2,539,1,400,1,420⟩,⟨2,540,1,400,1,420⟩,⟨2,541,1,400,1,420⟩,⟨2,542,1,400,1,420⟩,⟨2,543,1,400,1,420⟩,⟨2,544,1,400,1,420⟩,⟨2,545,1,400,1,420⟩,⟨2,546,1,400,1,420⟩,⟨2,547,1,400,1,420⟩,⟨2,548,1,400,1,420⟩,⟨2,549,1,400,1,420⟩,⟨2,550,1,400,1,420⟩,⟨2,551,1,400,1,420⟩,⟨2,552,1,400,1,420⟩,⟨2,553,1,400,1,420⟩,⟨2,554,1,400,1,420⟩,⟨2,555,1,400,1,420⟩,⟨2,556,1,400,1,421⟩,⟨2,557,1,400,1,422⟩,⟨2,558,1,400,1,423⟩,⟨2,559,1,400,1,424⟩],[⟨0,300,1⟩,⟨0,301,1⟩,⟨0,302,1⟩,⟨0,303,1⟩,⟨0,304,1⟩,⟨0,305,1⟩,⟨0,306,1⟩,⟨0,307,1⟩,⟨0,308,1⟩,⟨0,309,1⟩,⟨0,310,1⟩,⟨0,311,1⟩,⟨0,312,1⟩,⟨0,313,1⟩,⟨0,314,1⟩,⟨0,315,1⟩,⟨0,316,1⟩,⟨0,317,1⟩,⟨0,318,1⟩,⟨0,319,1⟩,⟨0,320,1⟩,⟨0,321,1⟩,⟨0,322,1⟩,⟨0,323,1⟩,⟨0,324,1⟩,⟨0,325,1⟩,⟨0,326,1⟩,⟨0,327,1⟩,⟨0,328,1⟩,⟨0,329,1⟩,⟨0,330,1⟩,⟨1,400,1⟩,⟨1,401,2⟩,⟨1,402,3⟩,⟨1,403,4⟩,⟨1,404,5⟩,⟨1,405,6⟩,⟨1,406,7⟩,⟨1,407,7⟩,⟨1,408,7⟩,⟨1,409,7⟩,⟨1,410,7⟩,⟨1,411,7⟩,⟨1,412,7⟩,⟨1,413,7⟩,⟨1,414,7⟩,⟨1,415,7⟩,⟨1,416,7⟩,⟨1,417,7⟩,⟨1,418,7⟩,⟨1,419,7⟩,⟨1,420,7⟩,⟨1,421,7⟩,⟨1,422,7⟩,⟨1,423,7⟩,⟨1,424,7⟩,⟨1,425,7⟩,⟨1,426,7⟩,⟨1,427,7⟩,⟨1,428,7⟩,⟨1,429,7⟩,⟨1,430,7⟩,⟨1,431,6⟩,⟨1,432,5⟩,⟨1,433,4⟩,⟨1,434,3⟩,⟨1,435,2⟩,⟨1,436,1⟩])
def ex16:List Arv × List Cnt:=([⟨0,300,0,0,-1,0⟩,⟨1,400,0,300,0,300⟩,⟨1,401,0,300,0,300⟩,⟨1,402,0,300,0,300⟩,⟨1,403,0,300,0,300⟩,⟨1,404,0,300,0,300⟩,⟨1,405,0,300,0,300⟩,⟨1,406,0,300,0,300⟩,⟨1,407,0,300,0,300⟩,⟨1,408,0,300,0,300⟩,⟨1,409,0,300,0,300⟩,⟨1,410,0,300,0,300⟩,⟨1,411,0,300,0,300⟩,⟨1,412,0,300,0,300⟩,⟨1,413,0,300,0,300⟩,⟨1,414,0,300,0,300⟩,⟨1,415,0,300,0,300⟩,⟨1,416,0,300,0,300⟩,⟨1,417,0,300,0,300⟩,⟨1,418,0,300,0,300⟩,⟨1,419,0,300,0,300⟩,⟨1,420,0,300,0,300⟩,⟨2,492,1,400,1,420⟩,⟨2,493,1,400,1,420⟩,⟨2,494,1,400,1,420⟩,⟨2,495,1,400,1,420⟩,⟨2,496,1,400,1,420⟩,⟨2,497,1,400,1,420⟩,⟨2,498,1,400,1,420⟩,⟨2,499,1,400,1,420⟩,⟨2,501,1,400,1,420⟩,⟨2,502,1,400,1,420⟩,⟨2,503,1,400,1,420⟩,⟨2,504,1,400,1,420⟩,⟨2,505,1,400,1,420⟩,⟨2,506,1,400,1,420⟩,⟨2,507,1,400,1,420⟩,⟨2,508,1,400,1,420⟩,⟨2,509,1,400,1,420⟩,⟨2,510,1,400,1,420⟩,⟨2,511,1,400,1,420⟩,⟨2,512,1,400,1,420⟩,⟨2,513,1,400,1,420⟩,⟨2,514,1,400,1,420⟩,⟨2,515,1,400,1,420⟩,⟨2,516,1,400,1,420⟩,⟨2,517,1,400,1,420⟩,⟨2,518,1,400,1,420⟩,⟨2,519,1,400,1,420⟩,⟨2,520,1,400,1,420⟩,⟨2,521,1,400,1,420⟩,⟨2,522,1,400,1,420⟩,⟨2,523,1,400,1,420⟩,⟨2,524,1,400,1,420⟩,⟨2,525,1,400,1,420⟩,⟨2,526,1,400,1,420⟩,⟨2,527,1,400,1,420⟩,⟨2,528,1,400,1,420⟩,⟨2,529,1,400,1,420⟩,⟨2,530,1,400,1,420⟩,⟨2,531,1,400,1,420⟩,⟨2,532,1,400,1,420⟩,⟨2,533,1,400,1,420⟩,⟨2,534,1,400,1,420⟩,⟨2,535,1,400,1,420⟩,⟨2,536,1,400,1,420⟩,⟨2,537,1,400,1,420⟩,⟨2,538,1,400,1,420⟩,⟨2,539,1,400,1,420⟩,⟨2,540,1,400,1,420⟩,⟨2,541,1,400,1,420⟩,⟨2,542,1,400,1,420⟩,⟨2,543,1,400,1,420⟩,⟨2,544,1,400,1,420⟩,⟨2,545,1,400,1,420⟩,⟨2,546,1,400,1,420⟩,⟨2,547,1,400,1,420⟩,⟨2,548,1,400,1,420⟩,⟨2,549,1,400,1,420⟩,⟨2,550,1,400,1,420⟩,⟨2,551,1,400,1,420⟩,⟨2,552,1,400,1,420⟩,⟨2,553,1,400,1,420⟩,⟨2,554,1,400,1,420⟩,⟨2,555,1,400,1,420⟩,⟨2,556,1,400,1,421⟩,⟨2,557,1,400,1,422⟩,⟨2,558,1,400,1,423⟩,⟨2,559,1,400,1,424⟩],[⟨0,300,1⟩,⟨0,301,1⟩,⟨0,302,1⟩,⟨0,303,1⟩,⟨0,304,1⟩,⟨0,305,1⟩,⟨0,306,1⟩,⟨0,307,1⟩,⟨0,308,1⟩,⟨0,309,1⟩,⟨0,310,1⟩,⟨0,311,1⟩,⟨0,312,1⟩,⟨0,313,1⟩,⟨0,314,1⟩,⟨0,315,1⟩,⟨0,316,1⟩,⟨0,317,1⟩,⟨0,318,1⟩,⟨0,319,1⟩,⟨0,320,1⟩,⟨0,321,1⟩,⟨0,322,1⟩,⟨0,323,1⟩,⟨0,324,1⟩,⟨0,325,1⟩,⟨0,326,1⟩,⟨0,327,1⟩,⟨0,328,1⟩,⟨0,329,1⟩,⟨0,330,1⟩,⟨1,400,1⟩,⟨1,401,2⟩,⟨1,402,3⟩,⟨1,403,4⟩,⟨1,404,5⟩,⟨1,405,6⟩,⟨1,406,7⟩,⟨1,407,8⟩,⟨1,408,9⟩,⟨1,409,10⟩,⟨1,410,11⟩,⟨1,411,12⟩,⟨1,412,13⟩,⟨1,413,14⟩,⟨1,414,15⟩,⟨1,415,15⟩,⟨1,416,15⟩,⟨1,417,15⟩,⟨1,418,15⟩,⟨1,419,15⟩,⟨1,420,15⟩,⟨1,421,15⟩,⟨1,422,15⟩,⟨1,423,15⟩,⟨1,424,15⟩,⟨1,425,15⟩,⟨1,426,15⟩,⟨1,427,15⟩,⟨1,428,15⟩,⟨1,429,15⟩,⟨1,430,15⟩,⟨1,431,14⟩,⟨1,432,13⟩,⟨1,433,12⟩,⟨1,434,11⟩,⟨1,435,10⟩,⟨1,436,9⟩,⟨1,437,8⟩,⟨1,438,7⟩,⟨1,439,6⟩,⟨1,440,5⟩,⟨1,441,4⟩,⟨1,442,3⟩,⟨1,443,2⟩,⟨1,444,1⟩])
def ex24:List Arv × List Cnt:=([⟨0,300,0,0,-1,0⟩,⟨1,400,0,300,0,300⟩,⟨1,401,0,300,0,300⟩,⟨1,402,0,300,0,300⟩,⟨1,403,0,300,0,300⟩,⟨1,404,0,300,0,300⟩,⟨1,405,0,300,0,300⟩,⟨1,406,0,300,0,300⟩,⟨1,407,0,300,0,300⟩,⟨1,408,0,300,0,300⟩,⟨1,409,0,300,0,300⟩,⟨1,410,0,300,0,300⟩,⟨1,411,0,300,0,300⟩,⟨1,412,0,300,0,300⟩,⟨1,413,0,300,0,300⟩,⟨1,414,0,300,0,300⟩,⟨1,415,0,300,0,300⟩,⟨1,416,0,300,0,300⟩,⟨1,417,0,300,0,300⟩,⟨1,418,0,300,0,300⟩,⟨1,419,0,300,0,300⟩,⟨1,420,0,300,0,300⟩,⟨2,492,1,400,1,420⟩,⟨2,493,1,400,1,420⟩,⟨2,494,1,400,1,420⟩,⟨2,495,1,400,1,420⟩,⟨2,496,1,400,1,420⟩,⟨2,497,1,400,1,420⟩,⟨2,498,1,400,1,420⟩,⟨2,499,1,400,1,420⟩,⟨2,501,1,400,1,420⟩,⟨2,502,1,400,1,420⟩,⟨2,503,1,400,1,420⟩,⟨2,504,1,400,1,420⟩,⟨2,505,1,400,1,420⟩,⟨2,506,1,400,1,420⟩,⟨2,507,1,400,1,420⟩,⟨2,508,1,400,1,420⟩,⟨2,509,1,400,1,420⟩,⟨2,510,1,400,1,420⟩,⟨2,511,1,400,1,420⟩,⟨2,512,1,400,1,420⟩,⟨2,513,1,400,1,420⟩,⟨2,514,1,400,1,420⟩,⟨2,515,1,400,1,420⟩,⟨2,516,1,400,1,420⟩,⟨2,517,1,400,1,420⟩,⟨2,518,1,400,1,420⟩,⟨2,519,1,400,1,420⟩,⟨2,520,1,400,1,420⟩,⟨2,521,1,400,1,420⟩,⟨2,522,1,400,1,420⟩,⟨2,523,1,400,1,420⟩,⟨2,524,1,400,1,420⟩,⟨2,525,1,400,1,420⟩,⟨2,526,1,400,1,420⟩,⟨2,527,1,400,1,420⟩,⟨2,528,1,400,1,420⟩,⟨2,529,1,400,1,420⟩,⟨2,530,1,400,1,420⟩,⟨2,531,1,400,1,420⟩,⟨2,532,1,400,1,420⟩,⟨2,533,1,400,1,420⟩,⟨2,534,1,400,1,420⟩,⟨2,535,1,400,1,420⟩,⟨2,536,1,400,1,420⟩,⟨2,537,1,400,1,420⟩,⟨2,538,1,400,1,420⟩,⟨2,539,1,400,1,420⟩,⟨2,540,1,400,1,420⟩,⟨2,541,1,400,1,420⟩,⟨2,542,1,400,1,420⟩,⟨2,543,1,400,1,420⟩,⟨2,544,1,400,1,420⟩,⟨2,545,1,400,1,420⟩,⟨2,546,1,400,1,420⟩,⟨2,547,1,400,1,420⟩,⟨2,548,1,400,1,420⟩,⟨2,549,1,400,1,420⟩,⟨2,550,1,400,1,420⟩,⟨2,551,1,400,1,420⟩,⟨2,552,1,400,1,420⟩,⟨2,553,1,400,1,420⟩,⟨2,554,1,400,1,420⟩,⟨2,555,1,400,1,420⟩,⟨2,556,1,400,1,421⟩,⟨2,557,1,400,1,422⟩,⟨2,558,1,400,1,423⟩,⟨2,559,1,400,1,424⟩,⟨3,552,2,492,2,492⟩,⟨3,553,2,492,2,493⟩,⟨3,554,2,492,2,494⟩,⟨3,555,2,492,2,495⟩,⟨3,556,2,492,2,496⟩,⟨3,557,2,492,2,497⟩,⟨3,558,2,492,2,498⟩,⟨3,559,2,492,2,499⟩],[⟨0,300,1⟩,⟨0,301,1⟩,⟨0,302,1⟩,⟨0,303,1⟩,⟨0,304,1⟩,⟨0,305,1⟩,⟨0,306,1⟩,⟨0,307,1⟩,⟨0,308,1⟩,⟨0,309,1⟩,⟨0,310,1⟩,⟨0,311,1⟩,⟨0,312,1⟩,⟨0,313,1⟩,⟨0,314,1⟩,⟨0,315,1⟩,⟨0,316,1⟩,⟨0,317,1⟩,⟨0,318,1⟩,⟨0,319,1⟩,⟨0,320,1⟩,⟨0,321,1⟩,⟨0,322,1⟩,⟨0,323,1⟩,⟨0,324,1⟩,⟨0,325,1⟩,⟨0,326,1⟩,⟨0,327,1⟩,⟨0,328,1⟩,⟨0,329,1⟩,⟨0,330,1⟩,⟨1,400,1⟩,⟨1,401,2⟩,⟨1,402,3⟩,⟨1,403,4⟩,⟨1,404,5⟩,⟨1,405,6⟩,⟨1,406,7⟩,⟨1,407,8⟩,⟨1,408,9⟩,⟨1,409,10⟩,⟨1,410,11⟩,⟨1,411,12⟩,⟨1,412,13⟩,⟨1,413,14⟩,⟨1,414,15⟩,⟨1,415,16⟩,⟨1,416,17⟩,⟨1,417,18⟩,⟨1,418,19⟩,⟨1,419,20⟩,⟨1,420,21⟩,⟨1,421,21⟩,⟨1,422,21⟩,⟨1,423,21⟩,⟨1,424,21⟩,⟨1,425,21⟩,⟨1,426,21⟩,⟨1,427,21⟩,⟨1,428,21⟩,⟨1,429,21⟩,⟨1,430,21⟩,⟨1,431,20⟩,⟨1,432,19⟩,⟨1,433,18⟩,⟨1,434,17⟩,⟨1,435,16⟩,⟨1,436,15⟩,⟨1,437,14⟩,⟨1,438,13⟩,⟨1,439,12⟩,⟨1,440,11⟩,⟨1,441,10⟩,⟨1,442,9⟩,⟨1,443,8⟩,⟨1,444,7⟩,⟨1,445,6⟩,⟨1,446,5⟩,⟨1,447,4⟩,⟨1,448,3⟩,⟨1,449,2⟩,⟨1,450,1⟩,⟨2,492,1⟩,⟨2,493,2⟩,⟨2,494,2⟩,⟨2,495,2⟩,⟨2,496,2⟩,⟨2,497,2⟩,⟨2,498,2⟩,⟨2,499,2⟩])
def ex32:List Arv × List Cnt:=([⟨0,300,0,0,-1,0⟩,⟨1,400,0,300,0,300⟩,⟨1,401,0,300,0,300⟩,⟨1,402,0,300,0,300⟩,⟨1,403,0,300,0,300⟩,⟨1,404,0,300,0,300⟩,⟨1,405,0,300,0,300⟩,⟨1,406,0,300,0,300⟩,⟨1,407,0,300,0,300⟩,⟨1,408,0,300,0,300⟩,⟨1,409,0,300,0,300⟩,⟨1,410,0,300,0,300⟩,⟨1,411,0,300,0,300⟩,⟨1,412,0,300,0,300⟩,⟨1,413,0,300,0,300⟩,⟨1,414,0,300,0,300⟩,⟨1,415,0,300,0,300⟩,⟨1,416,0,300,0,300⟩,⟨1,417,0,300,0,300⟩,⟨1,418,0,300,0,300⟩,⟨1,419,0,300,0,300⟩,⟨1,420,0,300,0,300⟩,⟨2,492,1,400,1,420⟩,⟨2,493,1,400,1,420⟩,⟨2,494,1,400,1,420⟩,⟨2,495,1,400,1,420⟩,⟨2,496,1,400,1,420⟩,⟨2,497,1,400,1,420⟩,⟨2,498,1,400,1,420⟩,⟨2,499,1,400,1,420⟩,⟨2,501,1,400,1,420⟩,⟨2,502,1,400,1,420⟩,⟨2,503,1,400,1,420⟩,⟨2,504,1,400,1,420⟩,⟨2,505,1,400,1,420⟩,⟨2,506,1,400,1,420⟩,⟨2,507,1,400,1,420⟩,⟨2,508,1,400,1,420⟩,⟨2,509,1,400,1,420⟩,⟨2,510,1,400,1,420⟩,⟨2,511,1,400,1,420⟩,⟨2,512,1,400,1,420⟩,⟨2,513,1,400,1,420⟩,⟨2,514,1,400,1,420⟩,⟨2,515,1,400,1,420⟩,⟨2,516,1,400,1,420⟩,⟨2,517,1,400,1,420⟩,⟨2,518,1,400,1,420⟩,⟨2,519,1,400,1,420⟩,⟨2,520,1,400,1,420⟩,⟨2,521,1,400,1,420⟩,⟨2,522,1,400,1,420⟩,⟨2,523,1,400,1,420⟩,⟨2,524,1,400,1,420⟩,⟨2,525,1,400,1,420⟩,⟨2,526,1,400,1,420⟩,⟨2,527,1,400,1,420⟩,⟨2,528,1,400,1,420⟩,⟨2,529,1,400,1,420⟩,⟨2,530,1,400,1,420⟩,⟨2,531,1,400,1,420⟩,⟨2,532,1,400,1,420⟩,⟨2,533,1,400,1,420⟩,⟨2,534,1,400,1,420⟩,⟨2,535,1,400,1,420⟩,⟨2,536,1,400,1,420⟩,⟨2,537,1,400,1,420⟩,⟨2,538,1,400,1,420⟩,⟨2,539,1,400,1,420⟩,⟨2,540,1,400,1,420⟩,⟨2,541,1,400,1,420⟩,⟨2,542,1,400,1,420⟩,⟨2,543,1,400,1,420⟩,⟨2,544,1,400,1,420⟩,⟨2,545,1,400,1,420⟩,⟨2,546,1,400,1,420⟩,⟨2,547,1,400,1,420⟩,⟨2,548,1,400,1,420⟩,⟨2,549,1,400,1,420⟩,⟨2,550,1,400,1,420⟩,⟨2,551,1,400,1,420⟩,⟨2,552,1,400,1,420⟩,⟨2,553,1,400,1,420⟩,⟨2,554,1,400,1,420⟩,⟨2,555,1,400,1,420⟩,⟨2,556,1,400,1,421⟩,⟨2,557,1,400,1,422⟩,⟨2,558,1,400,1,423⟩,⟨2,559,1,400,1,424⟩,⟨3,552,2,492,2,492⟩,⟨3,553,2,492,2,493⟩,⟨3,554,2,492,2,494⟩,⟨3,555,2,492,2,495⟩,⟨3,556,2,492,2,496⟩,⟨3,557,2,492,2,497⟩,⟨3,558,2,492,2,498⟩,⟨3,559,2,492,2,499⟩],[⟨0,300,1⟩,⟨0,301,1⟩,⟨0,302,1⟩,⟨0,303,1⟩,⟨0,304,1⟩,⟨0,305,1⟩,⟨0,306,1⟩,⟨0,307,1⟩,⟨0,308,1⟩,⟨0,309,1⟩,⟨0,310,1⟩,⟨0,311,1⟩,⟨0,312,1⟩,⟨0,313,1⟩,⟨0,314,1⟩,⟨0,315,1⟩,⟨0,316,1⟩,⟨0,317,1⟩,⟨0,318,1⟩,⟨0,319,1⟩,⟨0,320,1⟩,⟨0,321,1⟩,⟨0,322,1⟩,⟨0,323,1⟩,⟨0,324,1⟩,⟨0,325,1⟩,⟨0,326,1⟩,⟨0,327,1⟩,⟨0,328,1⟩,⟨0,329,1⟩,⟨0,330,1⟩,⟨1,400,1⟩,⟨1,401,2⟩,⟨1,402,3⟩,⟨1,403,4⟩,⟨1,404,5⟩,⟨1,405,6⟩,⟨1,406,7⟩,⟨1,407,8⟩,⟨1,408,9⟩,⟨1,409,10⟩,⟨1,410,11⟩,⟨1,411,12⟩,⟨1,412,13⟩,⟨1,413,14⟩,⟨1,414,15⟩,⟨1,415,16⟩,⟨1,416,17⟩,⟨1,417,18⟩,⟨1,418,19⟩,⟨1,419,20⟩,⟨1,420,21⟩,⟨1,421,21⟩,⟨1,422,21⟩,⟨1,423,21⟩,⟨1,424,21⟩,⟨1,425,21⟩,⟨1,426,21⟩,⟨1,427,21⟩,⟨1,428,21⟩,⟨1,429,21⟩,⟨1,430,21⟩,⟨1,431,20⟩,⟨1,432,19⟩,⟨1,433,18⟩,⟨1,434,17⟩,⟨1,435,16⟩,⟨1,436,15⟩,⟨1,437,14⟩,⟨1,438,13⟩,⟨1,439,12⟩,⟨1,440,11⟩,⟨1,441,10⟩,⟨1,442,9⟩,⟨1,443,8⟩,⟨1,444,7⟩,⟨1,445,6⟩,⟨1,446,5⟩,⟨1,447,4⟩,⟨1,448,3⟩,⟨1,449,2⟩,⟨1,450,1⟩,⟨2,492,1⟩,⟨2,493,2⟩,⟨2,494,3⟩,⟨2,495,4⟩,⟨2,496,5⟩,⟨2,497,6⟩,⟨2,498,7⟩,⟨2,499,8⟩,⟨2,501,1⟩,⟨2,502,2⟩,⟨2,503,2⟩,⟨2,504,2⟩,⟨2,505,2⟩,⟨2,506,2⟩,⟨2,507,2⟩,⟨2,508,2⟩,⟨2,509,2⟩,⟨2,510,2⟩,⟨2,511,2⟩,⟨2,512,2⟩,⟨2,513,2⟩,⟨2,514,2⟩,⟨2,515,2⟩,⟨2,516,2⟩,⟨2,517,2⟩,⟨2,518,2⟩,⟨2,519,2⟩,⟨2,520,2⟩,⟨2,521,2⟩,⟨2,522,2⟩,⟨2,523,2⟩,⟨2,524,2⟩,⟨2,525,2⟩,⟨2,526,2⟩,⟨2,527,2⟩,⟨2,528,2⟩,⟨2,529,2⟩,⟨2,530,2⟩,⟨2,531,2⟩,⟨2,532,1⟩])
def ex40:List Arv × List Cnt:=([⟨0,300,0,0,-1,0⟩,⟨1,400,0,300,0,300⟩,⟨1,401,0,300,0,300⟩,⟨1,402,0,300,0,300⟩,⟨1,403,0,300,0,300⟩,⟨1,404,0,300,0,300⟩,⟨1,405,0,300,0,300⟩,⟨1,406,0,300,0,300⟩,⟨1,407,0,300,0,300⟩,⟨1,408,0,300,0,300⟩,⟨1,409,0,300,0,300⟩,⟨1,410,0,300,0,300⟩,⟨1,411,0,300,0,300⟩,⟨1,412,0,300,0,300⟩,⟨1,413,0,300,0,300⟩,⟨1,414,0,300,0,300⟩,⟨1,415,0,300,0,300⟩,⟨1,416,0,300,0,300⟩,⟨1,417,0,300,0,300⟩,⟨1,418,0,300,0,300⟩,⟨1,419,0,300,0,300⟩,⟨1,420,0,300,0,300⟩,⟨2,492,1,400,1,420⟩,⟨2,493,1,400,1,420⟩,⟨2,494,1,400,1,420⟩,⟨2,495,1,400,1,420⟩,⟨2,496,1,400,1,420⟩,⟨2,497,1,400,1,420⟩,⟨2,498,1,400,1,420⟩,⟨2,499,1,400,1,420⟩,⟨2,501,1,400,1,420⟩,⟨2,502,1,400,1,420⟩,⟨2,503,1,400,1,420⟩,⟨2,504,1,400,1,420⟩,⟨2,505,1,400,1,420⟩,⟨2,506,1,400,1,420⟩,⟨2,507,1,400,1,420⟩,⟨2,508,1,400,1,420⟩,⟨2,509,1,400,1,420⟩,⟨2,510,1,400,1,420⟩,⟨2,511,1,400,1,420⟩,⟨2,512,1,400,1,420⟩,⟨2,513,1,400,1,420⟩,⟨2,514,1,400,1,420⟩,⟨2,515,1,400,1,420⟩,⟨2,516,1,400,1,420⟩,⟨2,517,1,400,1,420⟩,⟨2,518,1,400,1,420⟩,⟨2,519,1,400,1,420⟩,⟨2,520,1,400,1,420⟩,⟨2,521,1,400,1,420⟩,⟨2,522,1,400,1,420⟩,⟨2,523,1,400,1,420⟩,⟨2,524,1,400,1,420⟩,⟨2,525,1,400,1,420⟩,⟨2,526,1,400,1,420⟩,⟨2,527,1,400,1,420⟩,⟨2,528,1,400,1,420⟩,⟨2,529,1,400,1,420⟩,⟨2,530,1,400,1,420⟩,⟨2,531,1,400,1,420⟩,⟨2,532,1,400,1,420⟩,⟨2,533,1,400,1,420⟩,⟨2,534,1,400,1,420⟩,⟨2,535,1,400,1,420⟩,⟨2,536,1,400,1,420⟩,⟨2,537,1,400,1,420⟩,⟨2,538,1,400,1,420⟩,⟨2,539,1,400,1,420⟩,⟨2,540,1,400,1,420⟩,⟨2,541,1,400,1,420⟩,⟨2,542,1,400,1,420⟩,⟨2,543,1,400,1,420⟩,⟨2,544,1,400,1,420⟩,⟨2,545,1,400,1,420⟩,⟨2,546,1,400,1,420⟩,⟨2,547,1,400,1,420⟩,⟨2,548,1,400,1,420⟩,⟨2,549,1,400,1,420⟩,⟨2,550,1,400,1,420⟩,⟨2,551,1,400,1,420⟩,⟨2,552,1,400,1,420⟩,⟨2,553,1,400,1,420⟩,⟨2,554,1,400,1,420⟩,⟨2,555,1,400,1,420⟩,⟨2,556,1,400,1,421⟩,⟨2,557,1,400,1,422⟩,⟨2,558,1,400,1,423⟩,⟨2,559,1,400,1,424⟩,⟨3,552,2,492,2,492⟩,⟨3,553,2,492,2,493⟩,⟨3,554,2,492,2,494⟩,⟨3,555,2,492,2,495⟩,⟨3,556,2,492,2,496⟩,⟨3,557,2,492,2,497⟩,⟨3,558,2,492,2,498⟩,⟨3,559,2,492,2,499⟩],[⟨0,300,1⟩,⟨0,301,1⟩,⟨0,302,1⟩,⟨0,303,1⟩,⟨0,304,1⟩,⟨0,305,1⟩,⟨0,306,1⟩,⟨0,307,1⟩,⟨0,308,1⟩,⟨0,309,1⟩,⟨0,310,1⟩,⟨0,311,1⟩,⟨0,312,1⟩,⟨0,313,1⟩,⟨0,314,1⟩,⟨0,315,1⟩,⟨0,316,1⟩,⟨0,317,1⟩,⟨0,318,1⟩,⟨0,319,1⟩,⟨0,320,1⟩,⟨0,321,1⟩,⟨0,322,1⟩,⟨0,323,1⟩,⟨0,324,1⟩,⟨0,325,1⟩,⟨0,326,1⟩,⟨0,327,1⟩,⟨0,328,1⟩,⟨0,329,1⟩,⟨0,330,1⟩,⟨1,400,1⟩,⟨1,401,2⟩,⟨1,402,3⟩,⟨1,403,4⟩,⟨1,404,5⟩,⟨1,405,6⟩,⟨1,406,7⟩,⟨1,407,8⟩,⟨1,408,9⟩,⟨1,409,10⟩,⟨1,410,11⟩,⟨1,411,12⟩,⟨1,412,13⟩,⟨1,413,14⟩,⟨1,414,15⟩,⟨1,415,16⟩,⟨1,416,17⟩,⟨1,417,18⟩,⟨1,418,19⟩,⟨1,419,20⟩,⟨1,420,21⟩,⟨1,421,21⟩,⟨1,422,21⟩,⟨1,423,21⟩,⟨1,424,21⟩,⟨1,425,21⟩,⟨1,426,21⟩,⟨1,427,21⟩,⟨1,428,21⟩,⟨1,429,21⟩,⟨1,430,21⟩,⟨1,431,20⟩,⟨1,432,19⟩,⟨1,433,18⟩,⟨1,434,17⟩,⟨1,435,16⟩,⟨1,436,15⟩,⟨1,437,14⟩,⟨1,438,13⟩,⟨1,439,12⟩,⟨1,440,11⟩,⟨1,441,10⟩,⟨1,442,9⟩,⟨1,443,8⟩,⟨1,444,7⟩,⟨1,445,6⟩,⟨1,446,5⟩,⟨1,447,4⟩,⟨1,448,3⟩,⟨1,449,2⟩,⟨1,450,1⟩,⟨2,492,1⟩,⟨2,493,2⟩,⟨2,494,3⟩,⟨2,495,4⟩,⟨2,496,5⟩,⟨2,497,6⟩,⟨2,498,7⟩,⟨2,499,8⟩,⟨2,501,1⟩,⟨2,502,2⟩,⟨2,503,3⟩,⟨2,504,4⟩,⟨2,505,5⟩,⟨2,506,6⟩,⟨2,507,7⟩,⟨2,508,8⟩,⟨2,509,9⟩,⟨2,510,10⟩,⟨2,511,10⟩,⟨2,512,10⟩,⟨2,513,10⟩,⟨2,514,10⟩,⟨2,515,10⟩,⟨2,516,10⟩,⟨2,517,10⟩,⟨2,518,10⟩,⟨2,519,10⟩,⟨2,520,10⟩,⟨2,521,10⟩,⟨2,522,10⟩,⟨2,523,10⟩,⟨2,524,10⟩,⟨2,525,10⟩,⟨2,526,10⟩,⟨2,527,10⟩,⟨2,528,10⟩,⟨2,529,10⟩,⟨2,530,10⟩,⟨2,531,10⟩,⟨2,532,9⟩,⟨2,533,8⟩,⟨2,534,7⟩,⟨2,535,6⟩,⟨2,536,5⟩,⟨2,537,4⟩,⟨2,538,3⟩,⟨2,539,2⟩,⟨2,540,1⟩])
def ex48:List Arv × List Cnt:=([⟨0,300,0,0,-1,0⟩,⟨1,400,0,300,0,300⟩,⟨1,401,0,300,0,300⟩,⟨1,402,0,300,0,300⟩,⟨1,403,0,300,0,300⟩,⟨1,404,0,300,0,300⟩,⟨1,405,0,300,0,300⟩,⟨1,406,0,300,0,300⟩,⟨1,407,0,300,0,300⟩,⟨1,408,0,300,0,300⟩,⟨1,409,0,300,0,300⟩,⟨1,410,0,300,0,300⟩,⟨1,411,0,300,0,300⟩,⟨1,412,0,300,0,300⟩,⟨1,413,0,300,0,300⟩,⟨1,414,0,300,0,300⟩,⟨1,415,0,300,0,300⟩,⟨1,416,0,300,0,300⟩,⟨1,417,0,300,0,300⟩,⟨1,418,0,300,0,300⟩,⟨1,419,0,300,0,300⟩,⟨1,420,0,300,0,300⟩,⟨2,492,1,400,1,420⟩,⟨2,493,1,400,1,420⟩,⟨2,494,1,400,1,420⟩,⟨2,495,1,400,1,420⟩,⟨2,496,1,400,1,420⟩,⟨2,497,1,400,1,420⟩,⟨2,498,1,400,1,420⟩,⟨2,499,1,400,1,420⟩,⟨2,501,1,400,1,420⟩,⟨2,502,1,400,1,420⟩,⟨2,503,1,400,1,420⟩,⟨2,504,1,400,1,420⟩,⟨2,505,1,400,1,420⟩,⟨2,506,1,400,1,420⟩,⟨2,507,1,400,1,420⟩,⟨2,508,1,400,1,420⟩,⟨2,509,1,400,1,420⟩,⟨2,510,1,400,1,420⟩,⟨2,511,1,400,1,420⟩,⟨2,512,1,400,1,420⟩,⟨2,513,1,400,1,420⟩,⟨2,514,1,400,1,420⟩,⟨2,515,1,400,1,420⟩,⟨2,516,1,400,1,420⟩,⟨2,517,1,400,1,420⟩,⟨2,518,1,400,1,420⟩,⟨2,519,1,400,1,420⟩,⟨2,520,1,400,1,420⟩,⟨2,521,1,400,1,420⟩,⟨2,522,1,400,1,420⟩,⟨2,523,1,400,1,420⟩,⟨2,524,1,400,1,420⟩,⟨2,525,1,400,1,420⟩,⟨2,526,1,400,1,420⟩,⟨2,527,1,400,1,420⟩,⟨2,528,1,400,1,420⟩,⟨2,529,1,400,1,420⟩,⟨2,530,1,400,1,420⟩,⟨2,531,1,400,1,420⟩,⟨2,532,1,400,1,420⟩,⟨2,533,1,400,1,420⟩,⟨2,534,1,400,1,420⟩,⟨2,535,1,400,1,420⟩,⟨2,536,1,400,1,420⟩,⟨2,537,1,400,1,420⟩,⟨2,538,1,400,1,420⟩,⟨2,539,1,400,1,420⟩,⟨2,540,1,400,1,420⟩,⟨2,541,1,400,1,420⟩,⟨2,542,1,400,1,420⟩,⟨2,543,1,400,1,420⟩,⟨2,544,1,400,1,420⟩,⟨2,545,1,400,1,420⟩,⟨2,546,1,400,1,420⟩,⟨2,547,1,400,1,420⟩,⟨2,548,1,400,1,420⟩,⟨2,549,1,400,1,420⟩,⟨2,550,1,400,1,420⟩,⟨2,551,1,400,1,420⟩,⟨2,552,1,400,1,420⟩,⟨2,553,1,400,1,420⟩,⟨2,554,1,400,1,420⟩,⟨2,555,1,400,1,420⟩,⟨2,556,1,400,1,421⟩,⟨2,557,1,400,1,422⟩,⟨2,558,1,400,1,423⟩,⟨2,559,1,400,1,424⟩,⟨3,552,2,492,2,492⟩,⟨3,553,2,492,2,493⟩,⟨3,554,2,492,2,494⟩,⟨3,555,2,492,2,495⟩,⟨3,556,2,492,2,496⟩,⟨3,557,2,492,2,497⟩,⟨3,558,2,492,2,498⟩,⟨3,559,2,492,2,499⟩],[⟨0,300,1⟩,⟨0,301,1⟩,⟨0,302,1⟩,⟨0,303,1⟩,⟨0,304,1⟩,⟨0,305,1⟩,⟨0,306,1⟩,⟨0,307,1⟩,⟨0,308,1⟩,⟨0,309,1⟩,⟨0,310,1⟩,⟨0,311,1⟩,⟨0,312,1⟩,⟨0,313,1⟩,⟨0,314,1⟩,⟨0,315,1⟩,⟨0,316,1⟩,⟨0,317,1⟩,⟨0,318,1⟩,⟨0,319,1⟩,⟨0,320,1⟩,⟨0,321,1⟩,⟨0,322,1⟩,⟨0,323,1⟩,⟨0,324,1⟩,⟨0,325,1⟩,⟨0,326,1⟩,⟨0,327,1⟩,⟨0,328,1⟩,⟨0,329,1⟩,⟨0,330,1⟩,⟨1,400,1⟩,⟨1,401,2⟩,⟨1,402,3⟩,⟨1,403,4⟩,⟨1,404,5⟩,⟨1,405,6⟩,⟨1,406,7⟩,⟨1,407,8⟩,⟨1,408,9⟩,⟨1,409,10⟩,⟨1,410,11⟩,⟨1,411,12⟩,⟨1,412,13⟩,⟨1,413,14⟩,⟨1,414,15⟩,⟨1,415,16⟩,⟨1,416,17⟩,⟨1,417,18⟩,⟨1,418,19⟩,⟨1,419,20⟩,⟨1,420,21⟩,⟨1,421,21⟩,⟨1,422,21⟩,⟨1,423,21⟩,⟨1,424,21⟩,⟨1,425,21⟩,⟨1,426,21⟩,⟨1,427,21⟩,⟨1,428,21⟩,⟨1,429,21⟩,⟨1,430,21⟩,⟨1,431,20⟩,⟨1,432,19⟩,⟨1,433,18⟩,⟨1,434,17⟩,⟨1,435,16⟩,⟨1,436,15⟩,⟨1,437,14⟩,⟨1,438,13⟩,⟨1,439,12⟩,⟨1,440,11⟩,⟨1,441,10⟩,⟨1,442,9⟩,⟨1,443,8⟩,⟨1,444,7⟩,⟨1,445,6⟩,⟨1,446,5⟩,⟨1,447,4⟩,⟨1,448,3⟩,⟨1,449,2⟩,⟨1,450,1⟩,⟨2,492,1⟩,⟨2,493,2⟩,⟨2,494,3⟩,⟨2,495,4⟩,⟨2,496,5⟩,⟨2,497,6⟩,⟨2,498,7⟩,⟨2,499,8⟩,⟨2,501,1⟩,⟨2,502,2⟩,⟨2,503,3⟩,⟨2,504,4⟩,⟨2,505,5⟩,⟨2,506,6⟩,⟨2,507,7⟩,⟨2,508,8⟩,⟨2,509,9⟩,⟨2,510,10⟩,⟨2,511,11⟩,⟨2,512,12⟩,⟨2,513,13⟩,⟨2,514,14⟩,⟨2,515,15⟩,⟨2,516,16⟩,⟨2,517,17⟩,⟨2,518,18⟩,⟨2,519,18⟩,⟨2,520,18⟩,⟨2,521,18⟩,⟨2,522,18⟩,⟨2,523,18⟩,⟨2,524,18⟩,⟨2,525,18⟩,⟨2,526,18⟩,⟨2,527,18⟩,⟨2,528,18⟩,⟨2,529,18⟩,⟨2,530,18⟩,⟨2,531,18⟩,⟨2,532,17⟩,⟨2,533,16⟩,⟨2,534,15⟩,⟨2,535,14⟩,⟨2,536,13⟩,⟨2,537,12⟩,⟨2,538,11⟩,⟨2,539,10⟩,⟨2,540,9⟩,⟨2,541,8⟩,⟨2,542,7⟩,⟨2,543,6⟩,⟨2,544,5⟩,⟨2,545,4⟩,⟨2,546,3⟩,⟨2,547,2⟩,⟨2,548,1⟩])
def ex56:List Arv × List Cnt:=([⟨0,300,0,0,-1,0⟩,⟨1,400,0,300,0,300⟩,⟨1,401,0,300,0,300⟩,⟨1,402,0,300,0,300⟩,⟨1,403,0,300,0,300⟩,⟨1,404,0,300,0,300⟩,⟨1,405,0,300,0,300⟩,⟨1,406,0,300,0,300⟩,⟨1,407,0,300,0,300⟩,⟨1,408,0,300,0,300⟩,⟨1,409,0,300,0,300⟩,⟨1,410,0,300,0,300⟩,⟨1,411,0,300,0,300⟩,⟨1,412,0,300,0,300⟩,⟨1,413,0,300,0,300⟩,⟨1,414,0,300,0,300⟩,⟨1,415,0,300,0,300⟩,⟨1,416,0,300,0,300⟩,⟨1,417,0,300,0,300⟩,⟨1,418,0,300,0,300⟩,⟨1,419,0,300,0,300⟩,⟨1,420,0,300,0,300⟩,⟨2,492,1,400,1,420⟩,⟨2,493,1,400,1,420⟩,⟨2,494,1,400,1,420⟩,⟨2,495,1,400,1,420⟩,⟨2,496,1,400,1,420⟩,⟨2,497,1,400,1,420⟩,⟨2,498,1,400,1,420⟩,⟨2,499,1,400,1,420⟩,⟨2,501,1,400,1,420⟩,⟨2,502,1,400,1,420⟩,⟨2,503,1,400,1,420⟩,⟨2,504,1,400,1,420⟩,⟨2,505,1,400,1,420⟩,⟨2,506,1,400,1,420⟩,⟨2,507,1,400,1,420⟩,⟨2,508,1,400,1,420⟩,⟨2,509,1,400,1,420⟩,⟨2,510,1,400,1,420⟩,⟨2,511,1,400,1,420⟩,⟨2,512,1,400,1,420⟩,⟨2,513,1,400,1,420⟩,⟨2,514,1,400,1,420⟩,⟨2,515,1,400,1,420⟩,⟨2,516,1,400,1,420⟩,⟨2,517,1,400,1,420⟩,⟨2,518,1,400,1,420⟩,⟨2,519,1,400,1,420⟩,⟨2,520,1,400,1,420⟩,⟨2,521,1,400,1,420⟩,⟨2,522,1,400,1,420⟩,⟨2,523,1,400,1,420⟩,⟨2,524,1,400,1,420⟩,⟨2,525,1,400,1,420⟩,⟨2,526,1,400,1,420⟩,⟨2,527,1,400,1,420⟩,⟨2,528,1,400,1,420⟩,⟨2,529,1,400,1,420⟩,⟨2,530,1,400,1,420⟩,⟨2,531,1,400,1,420⟩,⟨2,532,1,400,1,420⟩,⟨2,533,1,400,1,420⟩,⟨2,534,1,400,1,420⟩,⟨2,535,1,400,1,420⟩,⟨2,536,1,400,1,420⟩,⟨2,537,1,400,1,420⟩,⟨2,538,1,400,1,420⟩,⟨2,539,1,400,1,420⟩,⟨2,540,1,400,1,420⟩,⟨2,541,1,400,1,420⟩,⟨2,542,1,400,1,420⟩,⟨2,543,1,400,1,420⟩,⟨2,544,1,400,1,420⟩,⟨2,545,1,400,1,420⟩,⟨2,546,1,400,1,420⟩,⟨2,547,1,400,1,420⟩,⟨2,548,1,400,1,420⟩,⟨2,549,1,400,1,420⟩,⟨2,550,1,400,1,420⟩,⟨2,551,1,400,1,420⟩,⟨2,552,1,400,1,420⟩,⟨2,553,1,400,1,420⟩,⟨2,554,1,400,1,420⟩,⟨2,555,1,400,1,420⟩,⟨2,556,1,400,1,421⟩,⟨2,557,1,400,1,422⟩,⟨2,558,1,400,1,423⟩,⟨2,559,1,400,1,424⟩,⟨3,552,2,492,2,492⟩,⟨3,553,2,492,2,493⟩,⟨3,554,2,492,2,494⟩,⟨3,555,2,492,2,495⟩,⟨3,556,2,492,2,496⟩,⟨3,557,2,492,2,497⟩,⟨3,558,2,492,2,498⟩,⟨3,559,2,492,2,499⟩],[⟨0,300,1⟩,⟨0,301,1⟩,⟨0,302,1⟩,⟨0,303,1⟩,⟨0,304,1⟩,⟨0,305,1⟩,⟨0,306,1⟩,⟨0,307,1⟩,⟨0,308,1⟩,⟨0,309,1⟩,⟨0,310,1⟩,⟨0,311,1⟩,⟨0,312,1⟩,⟨0,313,1⟩,⟨0,314,1⟩,⟨0,315,1⟩,⟨0,316,1⟩,⟨0,317,1⟩,⟨0,318,1⟩,⟨0,319,1⟩,⟨0,320,1⟩,⟨0,321,1⟩,⟨0,322,1⟩,⟨0,323,1⟩,⟨0,324,1⟩,⟨0,325,1⟩,⟨0,326,1⟩,⟨0,327,1⟩,⟨0,328,1⟩,⟨0,329,1⟩,⟨0,330,1⟩,⟨1,400,1⟩,⟨1,401,2⟩,⟨1,402,3⟩,⟨1,403,4⟩,⟨1,404,5⟩,⟨1,405,6⟩,⟨1,406,7⟩,⟨1,407,8⟩,⟨1,408,9⟩,⟨1,409,10⟩,⟨1,410,11⟩,⟨1,411,12⟩,⟨1,412,13⟩,⟨1,413,14⟩,⟨1,414,15⟩,⟨1,415,16⟩,⟨1,416,17⟩,⟨1,417,18⟩,⟨1,418,19⟩,⟨1,419,20⟩,⟨1,420,21⟩,⟨1,421,21⟩,⟨1,422,21⟩,⟨1,423,21⟩,⟨1,424,21⟩,⟨1,425,21⟩,⟨1,426,21⟩,⟨1,427,21⟩,⟨1,428,21⟩,⟨1,429,21⟩,⟨1,430,21⟩,⟨1,431,20⟩,⟨1,432,19⟩,⟨1,433,18⟩,⟨1,434,17⟩,⟨1,435,16⟩,⟨1,436,15⟩,⟨1,437,14⟩,⟨1,438,13⟩,⟨1,439,12⟩,⟨1,440,11⟩,⟨1,441,10⟩,⟨1,442,9⟩,⟨1,443,8⟩,⟨1,444,7⟩,⟨1,445,6⟩,⟨1,446,5⟩,⟨1,447,4⟩,⟨1,448,3⟩,⟨1,449,2⟩,⟨1,450,1⟩,⟨2,492,1⟩,⟨2,493,2⟩,⟨2,494,3⟩,⟨2,495,4⟩,⟨2,496,5⟩,⟨2,497,6⟩,⟨2,498,7⟩,⟨2,499,8⟩,⟨2,501,1⟩,⟨2,502,2⟩,⟨2,503,3⟩,⟨2,504,4⟩,⟨2,505,5⟩,⟨2,506,6⟩,⟨2,507,7⟩,⟨2,508,8⟩,⟨2,509,9⟩,⟨2,510,10⟩,⟨2,511,11⟩,⟨2,512,12⟩,⟨2,513,13⟩,⟨2,514,14⟩,⟨2,515,15⟩,⟨2,516,16⟩,⟨2,517,17⟩,⟨2,518,18⟩,⟨2,519,19⟩,⟨2,520,20⟩,⟨2,521,21⟩,⟨2,522,22⟩,⟨2,523,23⟩,⟨2,524,24⟩,⟨2,525,25⟩,⟨2,526,26⟩,⟨2,527,26⟩,⟨2,528,26⟩,⟨2,529,26⟩,⟨2,530,26⟩,⟨2,531,26⟩,⟨2,532,25⟩,⟨2,533,24⟩,⟨2,534,23⟩,⟨2,535,22⟩,⟨2,536,21⟩,⟨2,537,20⟩,⟨2,538,19⟩,⟨2,539,18⟩,⟨2,540,17⟩,⟨2,541,16⟩,⟨2,542,15⟩,⟨2,543,14⟩,⟨2,544,13⟩,⟨2,545,12⟩,⟨2,546,11⟩,⟨2,547,10⟩,⟨2,548,9⟩,⟨2,549,8⟩,⟨2,550,7⟩,⟨2,551,6⟩,⟨2,552,5⟩,⟨2,553,4⟩,⟨2,554,3⟩,⟨2,555,2⟩,⟨2,556,1⟩])
def ex64:List Arv × List Cnt:=([⟨0,300,0,0,-1,0⟩,⟨1,400,0,300,0,300⟩,⟨1,401,0,300,0,300⟩,⟨1,402,0,300,0,300⟩,⟨1,403,0,300,0,300⟩,⟨1,404,0,300,0,300⟩,⟨1,405,0,300,0,300⟩,⟨1,406,0,300,0,300⟩,⟨1,407,0,300,0,300⟩,⟨1,408,0,300,0,300⟩,⟨1,409,0,300,0,300⟩,⟨1,410,0,300,0,300⟩,⟨1,411,0,300,0,300⟩,⟨1,412,0,300,0,300⟩,⟨1,413,0,300,0,300⟩,⟨1,414,0,300,0,300⟩,⟨1,415,0,300,0,300⟩,⟨1,416,0,300,0,300⟩,⟨1,417,0,300,0,300⟩,⟨1,418,0,300,0,300⟩,⟨1,419,0,300,0,300⟩,⟨1,420,0,300,0,300⟩,⟨2,492,1,400,1,420⟩,⟨2,493,1,400,1,420⟩,⟨2,494,1,400,1,420⟩,⟨2,495,1,400,1,420⟩,⟨2,496,1,400,1,420⟩,⟨2,497,1,400,1,420⟩,⟨2,498,1,400,1,420⟩,⟨2,499,1,400,1,420⟩,⟨2,501,1,400,1,420⟩,⟨2,502,1,400,1,420⟩,⟨2,503,1,400,1,420⟩,⟨2,504,1,400,1,420⟩,⟨2,505,1,400,1,420⟩,⟨2,506,1,400,1,420⟩,⟨2,507,1,400,1,420⟩,⟨2,508,1,400,1,420⟩,⟨2,509,1,400,1,420⟩,⟨2,510,1,400,1,420⟩,⟨2,511,1,400,1,420⟩,⟨2,512,1,400,1,420⟩,⟨2,513,1,400,1,420⟩,⟨2,514,1,400,1,420⟩,⟨2,515,1,400,1,420⟩,⟨2,516,1,400,1,420⟩,⟨2,517,1,400,1,420⟩,⟨2,518,1,400,1,420⟩,⟨2,519,1,400,1,420⟩,⟨2,520,1,400,1,420⟩,⟨2,521,1,400,1,420⟩,⟨2,522,1,400,1,420⟩,⟨2,523,1,400,1,420⟩,⟨2,524,1,400,1,420⟩,⟨2,525,1,400,1,420⟩,⟨2,526,1,400,1,420⟩,⟨2,527,1,400,1,420⟩,⟨2,528,1,400,1,420⟩,⟨2,529,1,400,1,420⟩,⟨2,530,1,400,1,420⟩,⟨2,531,1,400,1,420⟩,⟨2,532,1,400,1,420⟩,⟨2,533,1,400,1,420⟩,⟨2,534,1,400,1,420⟩,⟨2,535,1,400,1,420⟩,⟨2,536,1,400,1,420⟩,⟨2,537,1,400,1,420⟩,⟨2,538,1,400,1,420⟩,⟨2,539,1,400,1,420⟩,⟨2,540,1,400,1,420⟩,⟨2,541,1,400,1,420⟩,⟨2,542,1,400,1,420⟩,⟨2,543,1,400,1,420⟩,⟨2,544,1,400,1,420⟩,⟨2,545,1,400,1,420⟩,⟨2,546,1,400,1,420⟩,⟨2,547,1,400,1,420⟩,⟨2,548,1,400,1,420⟩,⟨2,549,1,400,1,420⟩,⟨2,550,1,400,1,420⟩,⟨2,551,1,400,1,420⟩,⟨2,552,1,400,1,420⟩,⟨2,553,1,400,1,420⟩,⟨2,554,1,400,1,420⟩,⟨2,555,1,400,1,420⟩,⟨2,556,1,400,1,421⟩,⟨2,557,1,400,1,422⟩,⟨2,558,1,400,1,423⟩,⟨2,559,1,400,1,424⟩,⟨3,552,2,492,2,492⟩,⟨3,553,2,492,2,493⟩,⟨3,554,2,492,2,494⟩,⟨3,555,2,492,2,495⟩,⟨3,556,2,492,2,496⟩,⟨3,557,2,492,2,497⟩,⟨3,558,2,492,2,498⟩,⟨3,559,2,492,2,499⟩],[⟨0,300,1⟩,⟨0,301,1⟩,⟨0,302,1⟩,⟨0,303,1⟩,⟨0,304,1⟩,⟨0,305,1⟩,⟨0,306,1⟩,⟨0,307,1⟩,⟨0,308,1⟩,⟨0,309,1⟩,⟨0,310,1⟩,⟨0,311,1⟩,⟨0,312,1⟩,⟨0,313,1⟩,⟨0,314,1⟩,⟨0,315,1⟩,⟨0,316,1⟩,⟨0,317,1⟩,⟨0,318,1⟩,⟨0,319,1⟩,⟨0,320,1⟩,⟨0,321,1⟩,⟨0,322,1⟩,⟨0,323,1⟩,⟨0,324,1⟩,⟨0,325,1⟩,⟨0,326,1⟩,⟨0,327,1⟩,⟨0,328,1⟩,⟨0,329,1⟩,⟨0,330,1⟩,⟨1,400,1⟩,⟨1,401,2⟩,⟨1,402,3⟩,⟨1,403,4⟩,⟨1,404,5⟩,⟨1,405,6⟩,⟨1,406,7⟩,⟨1,407,8⟩,⟨1,408,9⟩,⟨1,409,10⟩,⟨1,410,11⟩,⟨1,411,12⟩,⟨1,412,13⟩,⟨1,413,14⟩,⟨1,414,15⟩,⟨1,415,16⟩,⟨1,416,17⟩,⟨1,417,18⟩,⟨1,418,19⟩,⟨1,419,20⟩,⟨1,420,21⟩,⟨1,421,21⟩,⟨1,422,21⟩,⟨1,423,21⟩,⟨1,424,21⟩,⟨1,425,21⟩,⟨1,426,21⟩,⟨1,427,21⟩,⟨1,428,21⟩,⟨1,429,21⟩,⟨1,430,21⟩,⟨1,431,20⟩,⟨1,432,19⟩,⟨1,433,18⟩,⟨1,434,17⟩,⟨1,435,16⟩,⟨1,436,15⟩,⟨1,437,14⟩,⟨1,438,13⟩,⟨1,439,12⟩,⟨1,440,11⟩,⟨1,441,10⟩,⟨1,442,9⟩,⟨1,443,8⟩,⟨1,444,7⟩,⟨1,445,6⟩,⟨1,446,5⟩,⟨1,447,4⟩,⟨1,448,3⟩,⟨1,449,2⟩,⟨1,450,1⟩,⟨2,492,1⟩,⟨2,493,2⟩,⟨2,494,3⟩,⟨2,495,4⟩,⟨2,496,5⟩,⟨2,497,6⟩,⟨2,498,7⟩,⟨2,499,8⟩,⟨2,501,1⟩,⟨2,502,2⟩,⟨2,503,3⟩,⟨2,504,4⟩,⟨2,505,5⟩,⟨2,506,6⟩,⟨2,507,7⟩,⟨2,508,8⟩,⟨2,509,9⟩,⟨2,510,10⟩,⟨2,511,11⟩,⟨2,512,12⟩,⟨2,513,13⟩,⟨2,514,14⟩,⟨2,515,15⟩,⟨2,516,16⟩,⟨2,517,17⟩,⟨2,518,18⟩,⟨2,519,19⟩,⟨2,520,20⟩,⟨2,521,21⟩,⟨2,522,22⟩,⟨2,523,23⟩,⟨2,524,24⟩,⟨2,525,25⟩,⟨2,526,26⟩,⟨2,527,27⟩,⟨2,528,28⟩,⟨2,529,29⟩,⟨2,530,30⟩,⟨2,531,31⟩,⟨2,532,31⟩,⟨2,533,31⟩,⟨2,534,31⟩,⟨2,535,30⟩,⟨2,536,29⟩,⟨2,537,28⟩,⟨2,538,27⟩,⟨2,539,26⟩,⟨2,540,25⟩,⟨2,541,24⟩,⟨2,542,23⟩,⟨2,543,22⟩,⟨2,544,21⟩,⟨2,545,20⟩,⟨2,546,19⟩,⟨2,547,18⟩,⟨2,548,17⟩,⟨2,549,16⟩,⟨2,550,15⟩,⟨2,551,14⟩,⟨2,552,13⟩,⟨2,553,12⟩,⟨2,554,11⟩,⟨2,555,10⟩,⟨2,556,9⟩,⟨2,557,8⟩,⟨2,558,7⟩,⟨2,559,6⟩])
def ex72:List Arv × List Cnt:=([⟨0,300,0,0,-1,0⟩,⟨1,400,0,300,0,300⟩,⟨1,401,0,300,0,300⟩,⟨1,402,0,300,0,300⟩,⟨1,403,0,300,0,300⟩,⟨1,404,0,300,0,300⟩,⟨1,405,0,300,0,300⟩,⟨1,406,0,300,0,300⟩,⟨1,407,0,300,0,300⟩,⟨1,408,0,300,0,300⟩,⟨1,409,0,300,0,300⟩,⟨1,410,0,300,0,300⟩,⟨1,411,0,300,0,300⟩,⟨1,412,0,300,0,300⟩,⟨1,413,0,300,0,300⟩,⟨1,414,0,300,0,300⟩,⟨1,415,0,300,0,300⟩,⟨1,416,0,300,0,300⟩,⟨1,417,0,300,0,300⟩,⟨1,418,0,300,0,300⟩,⟨1,419,0,300,0,300⟩,⟨1,420,0,300,0,300⟩,⟨2,492,1,400,1,420⟩,⟨2,493,1,400,1,420⟩,⟨2,494,1,400,1,420⟩,⟨2,495,1,400,1,420⟩,⟨2,496,1,400,1,420⟩,⟨2,497,1,400,1,420⟩,⟨2,498,1,400,1,420⟩,⟨2,499,1,400,1,420⟩,⟨2,501,1,400,1,420⟩,⟨2,502,1,400,1,420⟩,⟨2,503,1,400,1,420⟩,⟨2,504,1,400,1,420⟩,⟨2,505,1,400,1,420⟩,⟨2,506,1,400,1,420⟩,⟨2,507,1,400,1,420⟩,⟨2,508,1,400,1,420⟩,⟨2,509,1,400,1,420⟩,⟨2,510,1,400,1,420⟩,⟨2,511,1,400,1,420⟩,⟨2,512,1,400,1,420⟩,⟨2,513,1,400,1,420⟩,⟨2,514,1,400,1,420⟩,⟨2,515,1,400,1,420⟩,⟨2,516,1,400,1,420⟩,⟨2,517,1,400,1,420⟩,⟨2,518,1,400,1,420⟩,⟨2,519,1,400,1,420⟩,⟨2,520,1,400,1,420⟩,⟨2,521,1,400,1,420⟩,⟨2,522,1,400,1,420⟩,⟨2,523,1,400,1,420⟩,⟨2,524,1,400,1,420⟩,⟨2,525,1,400,1,420⟩,⟨2,526,1,400,1,420⟩,⟨2,527,1,400,1,420⟩,⟨2,528,1,400,1,420⟩,⟨2,529,1,400,1,420⟩,⟨2,530,1,400,1,420⟩,⟨2,531,1,400,1,420⟩,⟨2,532,1,400,1,420⟩,⟨2,533,1,400,1,420⟩,⟨2,534,1,400,1,420⟩,⟨2,535,1,400,1,420⟩,⟨2,536,1,400,1,420⟩,⟨2,537,1,400,1,420⟩,⟨2,538,1,400,1,420⟩,⟨2,539,1,400,1,420⟩,⟨2,540,1,400,1,420⟩,⟨2,541,1,400,1,420⟩,⟨2,542,1,400,1,420⟩,⟨2,543,1,400,1,420⟩,⟨2,544,1,400,1,420⟩,⟨2,545,1,400,1,420⟩,⟨2,546,1,400,1,420⟩,⟨2,547,1,400,1,420⟩,⟨2,548,1,400,1,420⟩,⟨2,549,1,400,1,420⟩,⟨2,550,1,400,1,420⟩,⟨2,551,1,400,1,420⟩,⟨2,552,1,400,1,420⟩,⟨2,553,1,400,1,420⟩,⟨2,554,1,400,1,420⟩,⟨2,555,1,400,1,420⟩,⟨2,556,1,400,1,421⟩,⟨2,557,1,400,1,422⟩,⟨2,558,1,400,1,423⟩,⟨2,559,1,400,1,424⟩,⟨3,552,2,492,2,492⟩,⟨3,553,2,492,2,493⟩,⟨3,554,2,492,2,494⟩,⟨3,555,2,492,2,495⟩,⟨3,556,2,492,2,496⟩,⟨3,557,2,492,2,497⟩,⟨3,558,2,492,2,498⟩,⟨3,559,2,492,2,499⟩],[⟨0,300,1⟩,⟨0,301,1⟩,⟨0,302,1⟩,⟨0,303,1⟩,⟨0,304,1⟩,⟨0,305,1⟩,⟨0,306,1⟩,⟨0,307,1⟩,⟨0,308,1⟩,⟨0,309,1⟩,⟨0,310,1⟩,⟨0,311,1⟩,⟨0,312,1⟩,⟨0,313,1⟩,⟨0,314,1⟩,⟨0,315,1⟩,⟨0,316,1⟩,⟨0,317,1⟩,⟨0,318,1⟩,⟨0,319,1⟩,⟨0,320,1⟩,⟨0,321,1⟩,⟨0,322,1⟩,⟨0,323,1⟩,⟨0,324,1⟩,⟨0,325,1⟩,⟨0,326,1⟩,⟨0,327,1⟩,⟨0,328,1⟩,⟨0,329,1⟩,⟨0,330,1⟩,⟨1,400,1⟩,⟨1,401,2⟩,⟨1,402,3⟩,⟨1,403,4⟩,⟨1,404,5⟩,⟨1,405,6⟩,⟨1,406,7⟩,⟨1,407,8⟩,⟨1,408,9⟩,⟨1,409,10⟩,⟨1,410,11⟩,⟨1,411,12⟩,⟨1,412,13⟩,⟨1,413,14⟩,⟨1,414,15⟩,⟨1,415,16⟩,⟨1,416,17⟩,⟨1,417,18⟩,⟨1,418,19⟩,⟨1,419,20⟩,⟨1,420,21⟩,⟨1,421,21⟩,⟨1,422,21⟩,⟨1,423,21⟩,⟨1,424,21⟩,⟨1,425,21⟩,⟨1,426,21⟩,⟨1,427,21⟩,⟨1,428,21⟩,⟨1,429,21⟩,⟨1,430,21⟩,⟨1,431,20⟩,⟨1,432,19⟩,⟨1,433,18⟩,⟨1,434,17⟩,⟨1,435,16⟩,⟨1,436,15⟩,⟨1,437,14⟩,⟨1,438,13⟩,⟨1,439,12⟩,⟨1,440,11⟩,⟨1,441,10⟩,⟨1,442,9⟩,⟨1,443,8⟩,⟨1,444,7⟩,⟨1,445,6⟩,⟨1,446,5⟩,⟨1,447,4⟩,⟨1,448,3⟩,⟨1,449,2⟩,⟨1,450,1⟩,⟨2,492,1⟩,⟨2,493,2⟩,⟨2,494,3⟩,⟨2,495,4⟩,⟨2,496,5⟩,⟨2,497,6⟩,⟨2,498,7⟩,⟨2,499,8⟩,⟨2,501,1⟩,⟨2,502,2⟩,⟨2,503,3⟩,⟨2,504,4⟩,⟨2,505,5⟩,⟨2,506,6⟩,⟨2,507,7⟩,⟨2,508,8⟩,⟨2,509,9⟩,⟨2,510,10⟩,⟨2,511,11⟩,⟨2,512,12⟩,⟨2,513,13⟩,⟨2,514,14⟩,⟨2,515,15⟩,⟨2,516,16⟩,⟨2,517,17⟩,⟨2,518,18⟩,⟨2,519,19⟩,⟨2,520,20⟩,⟨2,521,21⟩,⟨2,522,22⟩,⟨2,523,23⟩,⟨2,524,24⟩,⟨2,525,25⟩,⟨2,526,26⟩,⟨2,527,27⟩,⟨2,528,28⟩,⟨2,529,29⟩,⟨2,530,30⟩,⟨2,531,31⟩,⟨2,532,31⟩,⟨2,533,31⟩,⟨2,534,31⟩,⟨2,535,31⟩,⟨2,536,31⟩,⟨2,537,31⟩,⟨2,538,31⟩,⟨2,539,31⟩,⟨2,540,31⟩,⟨2,541,31⟩,⟨2,542,31⟩,⟨2,543,30⟩,⟨2,544,29⟩,⟨2,545,28⟩,⟨2,546,27⟩,⟨2,547,26⟩,⟨2,548,25⟩,⟨2,549,24⟩,⟨2,550,23⟩,⟨2,551,22⟩,⟨2,552,21⟩,⟨2,553,20⟩,⟨2,554,19⟩,⟨2,555,18⟩,⟨2,556,17⟩,⟨2,557,16⟩,⟨2,558,15⟩,⟨2,559,14⟩])
def ex80:List Arv × List Cnt:=([⟨0,300,0,0,-1,0⟩,⟨1,400,0,300,0,300⟩,⟨1,401,0,300,0,300⟩,⟨1,402,0,300,0,300⟩,⟨1,403,0,300,0,300⟩,⟨1,404,0,300,0,300⟩,⟨1,405,0,300,0,300⟩,⟨1,406,0,300,0,300⟩,⟨1,407,0,300,0,300⟩,⟨1,408,0,300,0,300⟩,⟨1,409,0,300,0,300⟩,⟨1,410,0,300,0,300⟩,⟨1,411,0,300,0,300⟩,⟨1,412,0,300,0,300⟩,⟨1,413,0,300,0,300⟩,⟨1,414,0,300,0,300⟩,⟨1,415,0,300,0,300⟩,⟨1,416,0,300,0,300⟩,⟨1,417,0,300,0,300⟩,⟨1,418,0,300,0,300⟩,⟨1,419,0,300,0,300⟩,⟨1,420,0,300,0,300⟩,⟨2,492,1,400,1,420⟩,⟨2,493,1,400,1,420⟩,⟨2,494,1,400,1,420⟩,⟨2,495,1,400,1,420⟩,⟨2,496,1,400,1,420⟩,⟨2,497,1,400,1,420⟩,⟨2,498,1,400,1,420⟩,⟨2,499,1,400,1,420⟩,⟨2,501,1,400,1,420⟩,⟨2,502,1,400,1,420⟩,⟨2,503,1,400,1,420⟩,⟨2,504,1,400,1,420⟩,⟨2,505,1,400,1,420⟩,⟨2,506,1,400,1,420⟩,⟨2,507,1,400,1,420⟩,⟨2,508,1,400,1,420⟩,⟨2,509,1,400,1,420⟩,⟨2,510,1,400,1,420⟩,⟨2,511,1,400,1,420⟩,⟨2,512,1,400,1,420⟩,⟨2,513,1,400,1,420⟩,⟨2,514,1,400,1,420⟩,⟨2,515,1,400,1,420⟩,⟨2,516,1,400,1,420⟩,⟨2,517,1,400,1,420⟩,⟨2,518,1,400,1,420⟩,⟨2,519,1,400,1,420⟩,⟨2,520,1,400,1,420⟩,⟨2,521,1,400,1,420⟩,⟨2,522,1,400,1,420⟩,⟨2,523,1,400,1,420⟩,⟨2,524,1,400,1,420⟩,⟨2,525,1,400,1,420⟩,⟨2,526,1,400,1,420⟩,⟨2,527,1,400,1,420⟩,⟨2,528,1,400,1,420⟩,⟨2,529,1,400,1,420⟩,⟨2,530,1,400,1,420⟩,⟨2,531,1,400,1,420⟩,⟨2,532,1,400,1,420⟩,⟨2,533,1,400,1,420⟩,⟨2,534,1,400,1,420⟩,⟨2,535,1,400,1,420⟩,⟨2,536,1,400,1,420⟩,⟨2,537,1,400,1,420⟩,⟨2,538,1,400,1,420⟩,⟨2,539,1,400,1,420⟩,⟨2,540,1,400,1,420⟩,⟨2,541,1,400,1,420⟩,⟨2,542,1,400,1,420⟩,⟨2,543,1,400,1,420⟩,⟨2,544,1,400,1,420⟩,⟨2,545,1,400,1,420⟩,⟨2,546,1,400,1,420⟩,⟨2,547,1,400,1,420⟩,⟨2,548,1,400,1,420⟩,⟨2,549,1,400,1,420⟩,⟨2,550,1,400,1,420⟩,⟨2,551,1,400,1,420⟩,⟨2,552,1,400,1,420⟩,⟨2,553,1,400,1,420⟩,⟨2,554,1,400,1,420⟩,⟨2,555,1,400,1,420⟩,⟨2,556,1,400,1,421⟩,⟨2,557,1,400,1,422⟩,⟨2,558,1,400,1,423⟩,⟨2,559,1,400,1,424⟩,⟨3,552,2,492,2,492⟩,⟨3,553,2,492,2,493⟩,⟨3,554,2,492,2,494⟩,⟨3,555,2,492,2,495⟩,⟨3,556,2,492,2,496⟩,⟨3,557,2,492,2,497⟩,⟨3,558,2,492,2,498⟩,⟨3,559,2,492,2,499⟩],[⟨0,300,1⟩,⟨0,301,1⟩,⟨0,302,1⟩,⟨0,303,1⟩,⟨0,304,1⟩,⟨0,305,1⟩,⟨0,306,1⟩,⟨0,307,1⟩,⟨0,308,1⟩,⟨0,309,1⟩,⟨0,310,1⟩,⟨0,311,1⟩,⟨0,312,1⟩,⟨0,313,1⟩,⟨0,314,1⟩,⟨0,315,1⟩,⟨0,316,1⟩,⟨0,317,1⟩,⟨0,318,1⟩,⟨0,319,1⟩,⟨0,320,1⟩,⟨0,321,1⟩,⟨0,322,1⟩,⟨0,323,1⟩,⟨0,324,1⟩,⟨0,325,1⟩,⟨0,326,1⟩,⟨0,327,1⟩,⟨0,328,1⟩,⟨0,329,1⟩,⟨0,330,1⟩,⟨1,400,1⟩,⟨1,401,2⟩,⟨1,402,3⟩,⟨1,403,4⟩,⟨1,404,5⟩,⟨1,405,6⟩,⟨1,406,7⟩,⟨1,407,8⟩,⟨1,408,9⟩,⟨1,409,10⟩,⟨1,410,11⟩,⟨1,411,12⟩,⟨1,412,13⟩,⟨1,413,14⟩,⟨1,414,15⟩,⟨1,415,16⟩,⟨1,416,17⟩,⟨1,417,18⟩,⟨1,418,19⟩,⟨1,419,20⟩,⟨1,420,21⟩,⟨1,421,21⟩,⟨1,422,21⟩,⟨1,423,21⟩,⟨1,424,21⟩,⟨1,425,21⟩,⟨1,426,21⟩,⟨1,427,21⟩,⟨1,428,21⟩,⟨1,429,21⟩,⟨1,430,21⟩,⟨1,431,20⟩,⟨1,432,19⟩,⟨1,433,18⟩,⟨1,434,17⟩,⟨1,435,16⟩,⟨1,436,15⟩,⟨1,437,14⟩,⟨1,438,13⟩,⟨1,439,12⟩,⟨1,440,11⟩,⟨1,441,10⟩,⟨1,442,9⟩,⟨1,443,8⟩,⟨1,444,7⟩,⟨1,445,6⟩,⟨1,446,5⟩,⟨1,447,4⟩,⟨1,448,3⟩,⟨1,449,2⟩,⟨1,450,1⟩,⟨2,492,1⟩,⟨2,493,2⟩,⟨2,494,3⟩,⟨2,495,4⟩,⟨2,496,5⟩,⟨2,497,6⟩,⟨2,498,7⟩,⟨2,499,8⟩,⟨2,501,1⟩,⟨2,502,2⟩,⟨2,503,3⟩,⟨2,504,4⟩,⟨2,505,5⟩,⟨2,506,6⟩,⟨2,507,7⟩,⟨2,508,8⟩,⟨2,509,9⟩,⟨2,510,10⟩,⟨2,511,11⟩,⟨2,512,12⟩,⟨2,513,13⟩,⟨2,514,14⟩,⟨2,515,15⟩,⟨2,516,16⟩,⟨2,517,17⟩,⟨2,518,18⟩,⟨2,519,19⟩,⟨2,520,20⟩,⟨2,521,21⟩,⟨2,522,22⟩,⟨2,523,23⟩,⟨2,524,24⟩,⟨2,525,25⟩,⟨2,526,26⟩,⟨2,527,27⟩,⟨2,528,28⟩,⟨2,529,29⟩,⟨2,530,30⟩,⟨2,531,31⟩,⟨2,532,31⟩,⟨2,533,31⟩,⟨2,534,31⟩,⟨2,535,31⟩,⟨2,536,31⟩,⟨2,537,31⟩,⟨2,538,31⟩,⟨2,539,31⟩,⟨2,540,31⟩,⟨2,541,31⟩,⟨2,542,31⟩,⟨2,543,31⟩,⟨2,544,31⟩,⟨2,545,31⟩,⟨2,546,31⟩,⟨2,547,31⟩,⟨2,548,31⟩,⟨2,549,31⟩,⟨2,550,31⟩,⟨2,551,30⟩,⟨2,552,29⟩,⟨2,553,28⟩,⟨2,554,27⟩,⟨2,555,26⟩,⟨2,556,25⟩,⟨2,557,24⟩,⟨2,558,23⟩,⟨2,559,22⟩])
def ex88:List Arv × List Cnt:=([⟨0,300,0,0,-1,0⟩,⟨1,400,0,300,0,300⟩,⟨1,401,0,300,0,300⟩,⟨1,402,0,300,0,300⟩,⟨1,403,0,300,0,300⟩,⟨1,404,0,300,0,300⟩,⟨1,405,0,300,0,300⟩,⟨1,406,0,300,0,300⟩,⟨1,407,0,300,0,300⟩,⟨1,408,0,300,0,300⟩,⟨1,409,0,300,0,300⟩,⟨1,410,0,300,0,300⟩,⟨1,411,0,300,0,300⟩,⟨1,412,0,300,0,300⟩,⟨1,413,0,300,0,300⟩,⟨1,414,0,300,0,300⟩,⟨1,415,0,300,0,300⟩,⟨1,416,0,300,0,300⟩,⟨1,417,0,300,0,300⟩,⟨1,418,0,300,0,300⟩,⟨1,419,0,300,0,300⟩,⟨1,420,0,300,0,300⟩,⟨2,492,1,400,1,420⟩,⟨2,493,1,400,1,420⟩,⟨2,494,1,400,1,420⟩,⟨2,495,1,400,1,420⟩,⟨2,496,1,400,1,420⟩,⟨2,497,1,400,1,420⟩,⟨2,498,1,400,1,420⟩,⟨2,499,1,400,1,420⟩,⟨2,501,1,400,1,420⟩,⟨2,502,1,400,1,420⟩,⟨2,503,1,400,1,420⟩,⟨2,504,1,400,1,420⟩,⟨2,505,1,400,1,420⟩,⟨2,506,1,400,1,420⟩,⟨2,507,1,400,1,420⟩,⟨2,508,1,400,1,420⟩,⟨2,509,1,400,1,420⟩,⟨2,510,1,400,1,420⟩,⟨2,511,1,400,1,420⟩,⟨2,512,1,400,1,420⟩,⟨2,513,1,400,1,420⟩,⟨2,514,1,400,1,420⟩,⟨2,515,1,400,1,420⟩,⟨2,516,1,400,1,420⟩,⟨2,517,1,400,1,420⟩,⟨2,518,1,400,1,420⟩,⟨2,519,1,400,1,420⟩,⟨2,520,1,400,1,420⟩,⟨2,521,1,400,1,420⟩,⟨2,522,1,400,1,420⟩,⟨2,523,1,400,1,420⟩,⟨2,524,1,400,1,420⟩,⟨2,525,1,400,1,420⟩,⟨2,526,1,400,1,420⟩,⟨2,527,1,400,1,420⟩,⟨2,528,1,400,1,420⟩,⟨2,529,1,400,1,420⟩,⟨2,530,1,400,1,420⟩,⟨2,531,1,400,1,420⟩,⟨2,532,1,400,1,420⟩,⟨2,533,1,400,1,420⟩,⟨2,534,1,400,1,420⟩,⟨2,535,1,400,1,420⟩,⟨2,536,1,400,1,420⟩,⟨2,537,1,400,1,420⟩,⟨2,538,1,400,1,420⟩,⟨2,539,1,400,1,420⟩,⟨2,540,1,400,1,420⟩,⟨2,541,1,400,1,420⟩,⟨2,542,1,400,1,420⟩,⟨2,543,1,400,1,420⟩,⟨2,544,1,400,1,420⟩,⟨2,545,1,400,1,420⟩,⟨2,546,1,400,1,420⟩,⟨2,547,1,400,1,420⟩,⟨2,548,1,400,1,420⟩,⟨2,549,1,400,1,420⟩,⟨2,550,1,400,1,420⟩,⟨2,551,1,400,1,420⟩,⟨2,552,1,400,1,420⟩,⟨2,553,1,400,1,420⟩,⟨2,554,1,400,1,420⟩,⟨2,555,1,400,1,420⟩,⟨2,556,1,400,1,421⟩,⟨2,557,1,400,1,422⟩,⟨2,558,1,400,1,423⟩,⟨2,559,1,400,1,424⟩,⟨3,552,2,492,2,492⟩,⟨3,553,2,492,2,493⟩,⟨3,554,2,492,2,494⟩,⟨3,555,2,492,2,495⟩,⟨3,556,2,492,2,496⟩,⟨3,557,2,492,2,497⟩,⟨3,558,2,492,2,498⟩,⟨3,559,2,492,2,499⟩],[⟨0,300,1⟩,⟨0,301,1⟩,⟨0,302,1⟩,⟨0,303,1⟩,⟨0,304,1⟩,⟨0,305,1⟩,⟨0,306,1⟩,⟨0,307,1⟩,⟨0,308,1⟩,⟨0,309,1⟩,⟨0,310,1⟩,⟨0,311,1⟩,⟨0,312,1⟩,⟨0,313,1⟩,⟨0,314,1⟩,⟨0,315,1⟩,⟨0,316,1⟩,⟨0,317,1⟩,⟨0,318,1⟩,⟨0,319,1⟩,⟨0,320,1⟩,⟨0,321,1⟩,⟨0,322,1⟩,⟨0,323,1⟩,⟨0,324,1⟩,⟨0,325,1⟩,⟨0,326,1⟩,⟨0,327,1⟩,⟨0,328,1⟩,⟨0,329,1⟩,⟨0,330,1⟩,⟨1,400,1⟩,⟨1,401,2⟩,⟨1,402,3⟩,⟨1,403,4⟩,⟨1,404,5⟩,⟨1,405,6⟩,⟨1,406,7⟩,⟨1,407,8⟩,⟨1,408,9⟩,⟨1,409,10⟩,⟨1,410,11⟩,⟨1,411,12⟩,⟨1,412,13⟩,⟨1,413,14⟩,⟨1,414,15⟩,⟨1,415,16⟩,⟨1,416,17⟩,⟨1,417,18⟩,⟨1,418,19⟩,⟨1,419,20⟩,⟨1,420,21⟩,⟨1,421,21⟩,⟨1,422,21⟩,⟨1,423,21⟩,⟨1,424,21⟩,⟨1,425,21⟩,⟨1,426,21⟩,⟨1,427,21⟩,⟨1,428,21⟩,⟨1,429,21⟩,⟨1,430,21⟩,⟨1,431,20⟩,⟨1,432,19⟩,⟨1,433,18⟩,⟨1,434,17⟩,⟨1,435,16⟩,⟨1,436,15⟩,⟨1,437,14⟩,⟨1,438,13⟩,⟨1,439,12⟩,⟨1,440,11⟩,⟨1,441,10⟩,⟨1,442,9⟩,⟨1,443,8⟩,⟨1,444,7⟩,⟨1,445,6⟩,⟨1,446,5⟩,⟨1,447,4⟩,⟨1,448,3⟩,⟨1,449,2⟩,⟨1,450,1⟩,⟨2,492,1⟩,⟨2,493,2⟩,⟨2,494,3⟩,⟨2,495,4⟩,⟨2,496,5⟩,⟨2,497,6⟩,⟨2,498,7⟩,⟨2,499,8⟩,⟨2,501,1⟩,⟨2,502,2⟩,⟨2,503,3⟩,⟨2,504,4⟩,⟨2,505,5⟩,⟨2,506,6⟩,⟨2,507,7⟩,⟨2,508,8⟩,⟨2,509,9⟩,⟨2,510,10⟩,⟨2,511,11⟩,⟨2,512,12⟩,⟨2,513,13⟩,⟨2,514,14⟩,⟨2,515,15⟩,⟨2,516,16⟩,⟨2,517,17⟩,⟨2,518,18⟩,⟨2,519,19⟩,⟨2,520,20⟩,⟨2,521,21⟩,⟨2,522,22⟩,⟨2,523,23⟩,⟨2,524,24⟩,⟨2,525,25⟩,⟨2,526,26⟩,⟨2,527,27⟩,⟨2,528,28⟩,⟨2,529,29⟩,⟨2,530,30⟩,⟨2,531,31⟩,⟨2,532,31⟩,⟨2,533,31⟩,⟨2,534,31⟩,⟨2,535,31⟩,⟨2,536,31⟩,⟨2,537,31⟩,⟨2,538,31⟩,⟨2,539,31⟩,⟨2,540,31⟩,⟨2,541,31⟩,⟨2,542,31⟩,⟨2,543,31⟩,⟨2,544,31⟩,⟨2,545,31⟩,⟨2,546,31⟩,⟨2,547,31⟩,⟨2,548,31⟩,⟨2,549,31⟩,⟨2,550,31⟩,⟨2,551,31⟩,⟨2,552,31⟩,⟨2,553,31⟩,⟨2,554,31⟩,⟨2,555,31⟩,⟨2,556,31⟩,⟨2,557,31⟩,⟨2,558,31⟩,⟨2,559,30⟩])
def ex96:List Arv × List Cnt:=([⟨0,300,0,0,-1,0⟩,⟨1,400,0,300,0,300⟩,⟨1,401,0,300,0,300⟩,⟨1,402,0,300,0,300⟩,⟨1,403,0,300,0,300⟩,⟨1,404,0,300,0,300⟩,⟨1,405,0,300,0,300⟩,⟨1,406,0,300,0,300⟩,⟨1,407,0,300,0,300⟩,⟨1,408,0,300,0,300⟩,⟨1,409,0,300,0,300⟩,⟨1,410,0,300,0,300⟩,⟨1,411,0,300,0,300⟩,⟨1,412,0,300,0,300⟩,⟨1,413,0,300,0,300⟩,⟨1,414,0,300,0,300⟩,⟨1,415,0,300,0,300⟩,⟨1,416,0,300,0,300⟩,⟨1,417,0,300,0,300⟩,⟨1,418,0,300,0,300⟩,⟨1,419,0,300,0,300⟩,⟨1,420,0,300,0,300⟩,⟨2,492,1,400,1,420⟩,⟨2,493,1,400,1,420⟩,⟨2,494,1,400,1,420⟩,⟨2,495,1,400,1,420⟩,⟨2,496,1,400,1,420⟩,⟨2,497,1,400,1,420⟩,⟨2,498,1,400,1,420⟩,⟨2,499,1,400,1,420⟩,⟨2,501,1,400,1,420⟩,⟨2,502,1,400,1,420⟩,⟨2,503,1,400,1,420⟩,⟨2,504,1,400,1,420⟩,⟨2,505,1,400,1,420⟩,⟨2,506,1,400,1,420⟩,⟨2,507,1,400,1,420⟩,⟨2,508,1,400,1,420⟩,⟨2,509,1,400,1,420⟩,⟨2,510,1,400,1,420⟩,⟨2,511,1,400,1,420⟩,⟨2,512,1,400,1,420⟩,⟨2,513,1,400,1,420⟩,⟨2,514,1,400,1,420⟩,⟨2,515,1,400,1,420⟩,⟨2,516,1,400,1,420⟩,⟨2,517,1,400,1,420⟩,⟨2,518,1,400,1,420⟩,⟨2,519,1,400,1,420⟩,⟨2,520,1,400,1,420⟩,⟨2,521,1,400,1,420⟩,⟨2,522,1,400,1,420⟩,⟨2,523,1,400,1,420⟩,⟨2,524,1,400,1,420⟩,⟨2,525,1,400,1,420⟩,⟨2,526,1,400,1,420⟩,⟨2,527,1,400,1,420⟩,⟨2,528,1,400,1,420⟩,⟨2,529,1,400,1,420⟩,⟨2,530,1,400,1,420⟩,⟨2,531,1,400,1,420⟩,⟨2,532,1,400,1,420⟩,⟨2,533,1,400,1,420⟩,⟨2,534,1,400,1,420⟩,⟨2,535,1,400,1,420⟩,⟨2,536,1,400,1,420⟩,⟨2,537,1,400,1,420⟩,⟨2,538,1,400,1,420⟩,⟨2,539,1,400,1,420⟩,⟨2,540,1,400,1,420⟩,⟨2,541,1,400,1,420⟩,⟨2,542,1,400,1,420⟩,⟨2,543,1,400,1,420⟩,⟨2,544,1,400,1,420⟩,⟨2,545,1,400,1,420⟩,⟨2,546,1,400,1,420⟩,⟨2,547,1,400,1,420⟩,⟨2,548,1,400,1,420⟩,⟨2,549,1,400,1,420⟩,⟨2,550,1,400,1,420⟩,⟨2,551,1,400,1,420⟩,⟨2,552,1,400,1,420⟩,⟨2,553,1,400,1,420⟩,⟨2,554,1,400,1,420⟩,⟨2,555,1,400,1,420⟩,⟨2,556,1,400,1,421⟩,⟨2,557,1,400,1,422⟩,⟨2,558,1,400,1,423⟩,⟨2,559,1,400,1,424⟩,⟨3,552,2,492,2,492⟩,⟨3,553,2,492,2,493⟩,⟨3,554,2,492,2,494⟩,⟨3,555,2,492,2,495⟩,⟨3,556,2,492,2,496⟩,⟨3,557,2,492,2,497⟩,⟨3,558,2,492,2,498⟩,⟨3,559,2,492,2,499⟩],[⟨0,300,1⟩,⟨0,301,1⟩,⟨0,302,1⟩,⟨0,303,1⟩,⟨0,304,1⟩,⟨0,305,1⟩,⟨0,306,1⟩,⟨0,307,1⟩,⟨0,308,1⟩,⟨0,309,1⟩,⟨0,310,1⟩,⟨0,311,1⟩,⟨0,312,1⟩,⟨0,313,1⟩,⟨0,314,1⟩,⟨0,315,1⟩,⟨0,316,1⟩,⟨0,317,1⟩,⟨0,318,1⟩,⟨0,319,1⟩,⟨0,320,1⟩,⟨0,321,1⟩,⟨0,322,1⟩,⟨0,323,1⟩,⟨0,324,1⟩,⟨0,325,1⟩,⟨0,326,1⟩,⟨0,327,1⟩,⟨0,328,1⟩,⟨0,329,1⟩,⟨0,330,1⟩,⟨1,400,1⟩,⟨1,401,2⟩,⟨1,402,3⟩,⟨1,403,4⟩,⟨1,404,5⟩,⟨1,405,6⟩,⟨1,406,7⟩,⟨1,407,8⟩,⟨1,408,9⟩,⟨1,409,10⟩,⟨1,410,11⟩,⟨1,411,12⟩,⟨1,412,13⟩,⟨1,413,14⟩,⟨1,414,15⟩,⟨1,415,16⟩,⟨1,416,17⟩,⟨1,417,18⟩,⟨1,418,19⟩,⟨1,419,20⟩,⟨1,420,21⟩,⟨1,421,21⟩,⟨1,422,21⟩,⟨1,423,21⟩,⟨1,424,21⟩,⟨1,425,21⟩,⟨1,426,21⟩,⟨1,427,21⟩,⟨1,428,21⟩,⟨1,429,21⟩,⟨1,430,21⟩,⟨1,431,20⟩,⟨1,432,19⟩,⟨1,433,18⟩,⟨1,434,17⟩,⟨1,435,16⟩,⟨1,436,15⟩,⟨1,437,14⟩,⟨1,438,13⟩,⟨1,439,12⟩,⟨1,440,11⟩,⟨1,441,10⟩,⟨1,442,9⟩,⟨1,443,8⟩,⟨1,444,7⟩,⟨1,445,6⟩,⟨1,446,5⟩,⟨1,447,4⟩,⟨1,448,3⟩,⟨1,449,2⟩,⟨1,450,1⟩,⟨2,492,1⟩,⟨2,493,2⟩,⟨2,494,3⟩,⟨2,495,4⟩,⟨2,496,5⟩,⟨2,497,6⟩,⟨2,498,7⟩,⟨2,499,8⟩,⟨2,501,1⟩,⟨2,502,2⟩,⟨2,503,3⟩,⟨2,504,4⟩,⟨2,505,5⟩,⟨2,506,6⟩,⟨2,507,7⟩,⟨2,508,8⟩,⟨2,509,9⟩,⟨2,510,10⟩,⟨2,511,11⟩,⟨2,512,12⟩,⟨2,513,13⟩,⟨2,514,14⟩,⟨2,515,15⟩,⟨2,516,16⟩,⟨2,517,17⟩,⟨2,518,18⟩,⟨2,519,19⟩,⟨2,520,20⟩,⟨2,521,21⟩,⟨2,522,22⟩,⟨2,523,23⟩,⟨2,524,24⟩,⟨2,525,25⟩,⟨2,526,26⟩,⟨2,527,27⟩,⟨2,528,28⟩,⟨2,529,29⟩,⟨2,530,30⟩,⟨2,531,31⟩,⟨2,532,31⟩,⟨2,533,31⟩,⟨2,534,31⟩,⟨2,535,31⟩,⟨2,536,31⟩,⟨2,537,31⟩,⟨2,538,31⟩,⟨2,539,31⟩,⟨2,540,31⟩,⟨2,541,31⟩,⟨2,542,31⟩,⟨2,543,31⟩,⟨2,544,31⟩,⟨2,545,31⟩,⟨2,546,31⟩,⟨2,547,31⟩,⟨2,548,31⟩,⟨2,549,31⟩,⟨2,550,31⟩,⟨2,551,31⟩,⟨2,552,31⟩,⟨2,553,31⟩,⟨2,554,31⟩,⟨2,555,31⟩,⟨2,556,31⟩,⟨2,557,31⟩,⟨2,558,31⟩,⟨2,559,31⟩,⟨3,552,1⟩,⟨3,553,2⟩,⟨3,554,3⟩,⟨3,555,4⟩,⟨3,556,5⟩,⟨3,557,6⟩,⟨3,558,7⟩,⟨3,559,7⟩,⟨3,560,7⟩,⟨3,561,7⟩,⟨3,562,7⟩,⟨3,563,7⟩,⟨3,564,7⟩,⟨3,565,7⟩,⟨3,566,7⟩,⟨3,567,7⟩,⟨3,568,7⟩,⟨3,569,7⟩,⟨3,570,7⟩,⟨3,571,7⟩,⟨3,572,7⟩,⟨3,573,7⟩,⟨3,574,7⟩,⟨3,575,7⟩,⟨3,576,7⟩,⟨3,577,7⟩,⟨3,578,7⟩,⟨3,579,7⟩,⟨3,580,7⟩,⟨3,581,7⟩,⟨3,582,7⟩,⟨3,583,6⟩,⟨3,584,5⟩,⟨3,585,4⟩,⟨3,586,3⟩,⟨3,587,2⟩,⟨3,588,1⟩])
def ex104:List Arv × List Cnt:=([⟨0,300,0,0,-1,0⟩,⟨1,400,0,300,0,300⟩,⟨1,401,0,300,0,300⟩,⟨1,402,0,300,0,300⟩,⟨1,403,0,300,0,300⟩,⟨1,404,0,300,0,300⟩,⟨1,405,0,300,0,300⟩,⟨1,406,0,300,0,300⟩,⟨1,407,0,300,0,300⟩,⟨1,408,0,300,0,300⟩,⟨1,409,0,300,0,300⟩,⟨1,410,0,300,0,300⟩,⟨1,411,0,300,0,300⟩,⟨1,412,0,300,0,300⟩,⟨1,413,0,300,0,300⟩,⟨1,414,0,300,0,300⟩,⟨1,415,0,300,0,300⟩,⟨1,416,0,300,0,300⟩,⟨1,417,0,300,0,300⟩,⟨1,418,0,300,0,300⟩,⟨1,419,0,300,0,300⟩,⟨1,420,0,300,0,300⟩,⟨2,492,1,400,1,420⟩,⟨2,493,1,400,1,420⟩,⟨2,494,1,400,1,420⟩,⟨2,495,1,400,1,420⟩,⟨2,496,1,400,1,420⟩,⟨2,497,1,400,1,420⟩,⟨2,498,1,400,1,420⟩,⟨2,499,1,400,1,420⟩,⟨2,501,1,400,1,420⟩,⟨2,502,1,400,1,420⟩,⟨2,503,1,400,1,420⟩,⟨2,504,1,400,1,420⟩,⟨2,505,1,400,1,420⟩,⟨2,506,1,400,1,420⟩,⟨2,507,1,400,1,420⟩,⟨2,508,1,400,1,420⟩,⟨2,509,1,400,1,420⟩,⟨2,510,1,400,1,420⟩,⟨2,511,1,400,1,420⟩,⟨2,512,1,400,1,420⟩,⟨2,513,1,400,1,420⟩,⟨2,514,1,400,1,420⟩,⟨2,515,1,400,1,420⟩,⟨2,516,1,400,1,420⟩,⟨2,517,1,400,1,420⟩,⟨2,518,1,400,1,420⟩,⟨2,519,1,400,1,420⟩,⟨2,520,1,400,1,420⟩,⟨2,521,1,400,1,420⟩,⟨2,522,1,400,1,420⟩,⟨2,523,1,400,1,420⟩,⟨2,524,1,400,1,420⟩,⟨2,525,1,400,1,420⟩,⟨2,526,1,400,1,420⟩,⟨2,527,1,400,1,420⟩,⟨2,528,1,400,1,420⟩,⟨2,529,1,400,1,420⟩,⟨2,530,1,400,1,420⟩,⟨2,531,1,400,1,420⟩,⟨2,532,1,400,1,420⟩,⟨2,533,1,400,1,420⟩,⟨2,534,1,400,1,420⟩,⟨2,535,1,400,1,420⟩,⟨2,536,1,400,1,420⟩,⟨2,537,1,400,1,420⟩,⟨2,538,1,400,1,420⟩,⟨2,539,1,400,1,420⟩,⟨2,540,1,400,1,420⟩,⟨2,541,1,400,1,420⟩,⟨2,542,1,400,1,420⟩,⟨2,543,1,400,1,420⟩,⟨2,544,1,400,1,420⟩,⟨2,545,1,400,1,420⟩,⟨2,546,1,400,1,420⟩,⟨2,547,1,400,1,420⟩,⟨2,548,1,400,1,420⟩,⟨2,549,1,400,1,420⟩,⟨2,550,1,400,1,420⟩,⟨2,551,1,400,1,420⟩,⟨2,552,1,400,1,420⟩,⟨2,553,1,400,1,420⟩,⟨2,554,1,400,1,420⟩,⟨2,555,1,400,1,420⟩,⟨2,556,1,400,1,421⟩,⟨2,557,1,400,1,422⟩,⟨2,558,1,400,1,423⟩,⟨2,559,1,400,1,424⟩,⟨3,552,2,492,2,492⟩,⟨3,553,2,492,2,493⟩,⟨3,554,2,492,2,494⟩,⟨3,555,2,492,2,495⟩,⟨3,556,2,492,2,496⟩,⟨3,557,2,492,2,497⟩,⟨3,558,2,492,2,498⟩,⟨3,559,2,492,2,499⟩],[⟨0,300,1⟩,⟨0,301,1⟩,⟨0,302,1⟩,⟨0,303,1⟩,⟨0,304,1⟩,⟨0,305,1⟩,⟨0,306,1⟩,⟨0,307,1⟩,⟨0,308,1⟩,⟨0,309,1⟩,⟨0,310,1⟩,⟨0,311,1⟩,⟨0,312,1⟩,⟨0,313,1⟩,⟨0,314,1⟩,⟨0,315,1⟩,⟨0,316,1⟩,⟨0,317,1⟩,⟨0,318,1⟩,⟨0,319,1⟩,⟨0,320,1⟩,⟨0,321,1⟩,⟨0,322,1⟩,⟨0,323,1⟩,⟨0,324,1⟩,⟨0,325,1⟩,⟨0,326,1⟩,⟨0,327,1⟩,⟨0,328,1⟩,⟨0,329,1⟩,⟨0,330,1⟩,⟨1,400,1⟩,⟨1,401,2⟩,⟨1,402,3⟩,⟨1,403,4⟩,⟨1,404,5⟩,⟨1,405,6⟩,⟨1,406,7⟩,⟨1,407,8⟩,⟨1,408,9⟩,⟨1,409,10⟩,⟨1,410,11⟩,⟨1,411,12⟩,⟨1,412,13⟩,⟨1,413,14⟩,⟨1,414,15⟩,⟨1,415,16⟩,⟨1,416,17⟩,⟨1,417,18⟩,⟨1,418,19⟩,⟨1,419,20⟩,⟨1,420,21⟩,⟨1,421,21⟩,⟨1,422,21⟩,⟨1,423,21⟩,⟨1,424,21⟩,⟨1,425,21⟩,⟨1,426,21⟩,⟨1,427,21⟩,⟨1,428,21⟩,⟨1,429,21⟩,⟨1,430,21⟩,⟨1,431,20⟩,⟨1,432,19⟩,⟨1,433,18⟩,⟨1,434,17⟩,⟨1,435,16⟩,⟨1,436,15⟩,⟨1,437,14⟩,⟨1,438,13⟩,⟨1,439,12⟩,⟨1,440,11⟩,⟨1,441,10⟩,⟨1,442,9⟩,⟨1,443,8⟩,⟨1,444,7⟩,⟨1,445,6⟩,⟨1,446,5⟩,⟨1,447,4⟩,⟨1,448,3⟩,⟨1,449,2⟩,⟨1,450,1⟩,⟨2,492,1⟩,⟨2,493,2⟩,⟨2,494,3⟩,⟨2,495,4⟩,⟨2,496,5⟩,⟨2,497,6⟩,⟨2,498,7⟩,⟨2,499,8⟩,⟨2,501,1⟩,⟨2,502,2⟩,⟨2,503,3⟩,⟨2,504,4⟩,⟨2,505,5⟩,⟨2,506,6⟩,⟨2,507,7⟩,⟨2,508,8⟩,⟨2,509,9⟩,⟨2,510,10⟩,⟨2,511,11⟩,⟨2,512,12⟩,⟨2,513,13⟩,⟨2,514,14⟩,⟨2,515,15⟩,⟨2,516,16⟩,⟨2,517,17⟩,⟨2,518,18⟩,⟨2,519,19⟩,⟨2,520,20⟩,⟨2,521,21⟩,⟨2,522,22⟩,⟨2,523,23⟩,⟨2,524,24⟩,⟨2,525,25⟩,⟨2,526,26⟩,⟨2,527,27⟩,⟨2,528,28⟩,⟨2,529,29⟩,⟨2,530,30⟩,⟨2,531,31⟩,⟨2,532,31⟩,⟨2,533,31⟩,⟨2,534,31⟩,⟨2,535,31⟩,⟨2,536,31⟩,⟨2,537,31⟩,⟨2,538,31⟩,⟨2,539,31⟩,⟨2,540,31⟩,⟨2,541,31⟩,⟨2,542,31⟩,⟨2,543,31⟩,⟨2,544,31⟩,⟨2,545,31⟩,⟨2,546,31⟩,⟨2,547,31⟩,⟨2,548,31⟩,⟨2,549,31⟩,⟨2,550,31⟩,⟨2,551,31⟩,⟨2,552,31⟩,⟨2,553,31⟩,⟨2,554,31⟩,⟨2,555,31⟩,⟨2,556,31⟩,⟨2,557,31⟩,⟨2,558,31⟩,⟨2,559,31⟩,⟨3,552,1⟩,⟨3,553,2⟩,⟨3,554,3⟩,⟨3,555,4⟩,⟨3,556,5⟩,⟨3,557,6⟩,⟨3,558,7⟩,⟨3,559,8⟩,⟨3,560,8⟩,⟨3,561,8⟩,⟨3,562,8⟩,⟨3,563,8⟩,⟨3,564,8⟩,⟨3,565,8⟩,⟨3,566,8⟩,⟨3,567,8⟩,⟨3,568,8⟩,⟨3,569,8⟩,⟨3,570,8⟩,⟨3,571,8⟩,⟨3,572,8⟩,⟨3,573,8⟩,⟨3,574,8⟩,⟨3,575,8⟩,⟨3,576,8⟩,⟨3,577,8⟩,⟨3,578,8⟩,⟨3,579,8⟩,⟨3,580,8⟩,⟨3,581,8⟩,⟨3,582,8⟩,⟨3,583,7⟩,⟨3,584,6⟩,⟨3,585,5⟩,⟨3,586,4⟩,⟨3,587,3⟩,⟨3,588,2⟩,⟨3,589,1⟩])
theorem z1327:goF exN exM 8 0 ex0=ex8:=by decide +kernel
theorem z1288:goF exN exM 8 8 ex8=ex16:=by decide +kernel
theorem z1287:goF exN exM 8 16 ex16=ex24:=by decide +kernel
theorem z1286:goF exN exM 8 24 ex24=ex32:=by decide +kernel
theorem z1285:goF exN exM 8 32 ex32=ex40:=by decide +kernel
theorem z1284:goF exN exM 8 40 ex40=ex48:=by decide +kernel
theorem z1283:goF exN exM 8 48 ex48=ex56:=by decide +kernel
theorem z1282:goF exN exM 8 56 ex56=ex64:=by decide +kernel
theorem z1281:goF exN exM 8 64 ex64=ex72:=by decide +kernel
theorem z1280:goF exN exM 8 72 ex72=ex80:=by decide +kernel
theorem z1279:goF exN exM 8 80 ex80=ex88:=by decide +kernel
theorem z1278:goF exN exM 8 88 ex88=ex96:=by decide +kernel
theorem z1238:goF exN exM 8 96 ex96=ex104:=by decide +kernel
theorem z1156:startA exM=ex0.1:=by decide +kernel
theorem z1074:huntedA exN exM=ex104.1:=by
 rw [huntedA,show boundN exN exM + 1=1101 + 8 + 8 + 8 + 8 + 8 + 8 + 8 + 8 + 8 + 8 + 8 + 8 + 8 by decide +kernel,z1156,show (ex0.1,([]:List Cnt))=ex0 from rfl]
 rw [z28 8 0,z1327,show 0 + 8=8 from rfl]
 rw [z28 8 8,z1288,show 8 + 8=16 from rfl]
 rw [z28 8 16,z1287,show 16 + 8=24 from rfl]
 rw [z28 8 24,z1286,show 24 + 8=32 from rfl]
 rw [z28 8 32,z1285,show 32 + 8=40 from rfl]
 rw [z28 8 40,z1284,show 40 + 8=48 from rfl]
 rw [z28 8 48,z1283,show 48 + 8=56 from rfl]
 rw [z28 8 56,z1282,show 56 + 8=64 from rfl]
 rw [z28 8 64,z1281,show 64 + 8=72 from rfl]
 rw [z28 8 72,z1280,show 72 + 8=80 from rfl]
 rw [z28 8 80,z1279,show 80 + 8=88 from rfl]
 rw [z28 8 88,z1278,show 88 + 8=96 from rfl]
 rw [z28 8 96,z1238,show 96 + 8=104 from rfl]
 rw [z279 (show ex104.1[104]?=none by decide +kernel)]
theorem z198 {α β γ:Type} (g:γ→β→γ) (f:α→List β):∀ (l:List α) (c:γ),(l.flatMap f).foldl g c=l.foldl (fun c a=>(f a).foldl g c) c
 | [],c=>rfl
 | a::l,c=>by rw [List.flatMap_cons,List.foldl_append,z198 g f l,List.foldl_cons]
theorem z1104:tallyE exN (endsL exN exM (huntedA exN exM))=([0,0,0,8],[0,0,0,0,212]):=by
 rw [z1074,tallyE,endsL,z198]
 decide +kernel
end Go.Ab
namespace Go.Ab
open Go.RowKit Go.Proofs
set_option maxHeartbeats 8000000
set_option maxRecDepth 20000
attribute [local irreducible] WalkL Walk
theorem z1182:openX exN exM=0:=by decide +kernel
theorem z1125:posL [0,0,0,8]=[3]:=by decide +kernel
theorem z1124:posL [0,0,0,0,212]=[4]:=by decide +kernel
theorem z1097:whereC exN exM=([3],[4],0):=by
 rw [whereC,if_neg (by rw [z1182];simp),whereP,whereW,z1104,z1125,z1124,if_neg (by simp)]
end Go.Ab
namespace Go.Ab
open Go.RowKit Go.Proofs
set_option maxHeartbeats 8000000
set_option maxRecDepth 20000
attribute [local irreducible] WalkL Walk
theorem z1254 (a b:List Int) (ha:a.length<2 ^ 30):Fn Tryd.prog 47 [.sl (intRows a),.sl (intRows b)] (.bool (decide (a=b))):=by
 refine z10 26 Tryd.call47 Tryd.func47 rfl (by decide) fun J=>?_
 simp only [go_sem,St.start,Tryd.ntmps47,Tryd.results47]
 repeat (first | refine nx ?_ | (refine z3 fun K hK=>?_;simp only [go_sem,z14];apply hK;clear hK K))
 by_cases hl:a.length=b.length
 ·have hne:((a.length:Int) != (b.length:Int))=false:=by simp [hl]
  simp only [go_sem,hne]
  refine z6 rfl ?_
  repeat (first | refine nx ?_ | (refine z3 fun K hK=>?_;simp only [go_sem];apply hK;clear hK K))
  refine z13 (fun (i:Nat)=>[(5,.d (.i i))]) (fun _=>[]) (fun i=>i≤a.length∧a.take i=b.take i) (fun i=>a.length - i) 0 ?_ ⟨Nat.zero_le _,by simp⟩ ?_
  ·simp only [go_sem]
   refine weA ?_ ?_ <;> simp
  ·intro i ⟨hi,heq⟩
   simp only [go_sem]
   repeat (first | refine nx ?_ | (refine z3 fun K hK=>?_;simp only [go_sem,z14];apply hK;clear hK K))
   refine z5 rfl (fun hb=>?_) (fun hb=>?_)
   ·have hlt:i<a.length:=by simpa using hb
    have hw:IntKind.i64.wrap ((i:Int) + 1)=((i + 1:Nat):Int):=by rw [z9 (by omega)];simp
    obtain ⟨x,hx⟩:∃ x,a[i]?=some x:=⟨_,List.getElem?_eq_getElem hlt⟩
    obtain ⟨y,hy⟩:∃ y,b[i]?=some y:=⟨_,List.getElem?_eq_getElem (hl ▸ hlt)⟩
    have g1:=z110 hx
    have g2:=z110 hy
    repeat (first | refine nx ?_ | (refine z3 fun K hK=>?_;simp only [go_sem];apply hK;clear hK K))
    refine z7 (by kernel_rfl) (by kernel_rfl) fun K hK=>?_
    simp only [go_sem,g1,g2]
    refine ⟨by kernel_rfl,hK _ ?_⟩
    clear hK K
    refine z5 rfl (fun hc=>?_) (fun hc=>?_)
    ·have hc:¬ x=y:=by simpa using hc
     have hab:¬ a=b:=by rintro rfl;rw [hx] at hy;cases hy;exact hc rfl
     repeat (first | refine nx ?_ | (refine z3 fun K hK=>?_;simp only [go_sem];apply hK;clear hK K))
     simp only [go_sem,hab]
    ·have hc:x=y:=by simpa using hc
     repeat (first | refine nx ?_ | (refine z3 fun K hK=>?_;simp only [go_sem,hw];apply hK;clear hK K))
     refine ⟨rfl,i + 1,?_,⟨hlt,by rw [List.take_add_one,List.take_add_one,heq,hx,hy,hc]⟩,by omega⟩
     refine weA ?_ ?_ <;> simp
   ·have he:i=a.length:=by (have:¬ i<a.length:=by simpa using hb);omega
    subst he
    have hab:a=b:=z323 hl heq
    repeat (first | refine nx ?_ | (refine z3 fun K hK=>?_;simp only [go_sem];apply hK;clear hK K))
    simp only [go_sem,hab]
 ·have hne:((a.length:Int) != (b.length:Int))=true:=by simp;omega
  have hab:¬ a=b:=by rintro rfl;exact hl rfl
  simp only [go_sem,hne]
  refine z11 rfl ?_
  repeat (first | refine nx ?_ | (refine z3 fun K hK=>?_;simp only [go_sem];apply hK;clear hK K))
  simp only [go_sem,hab]
def exS:List SpotT:=[⟨3,50,60⟩,⟨1,30,20⟩,⟨2,20,40⟩]
def exW:List (List Int):=[[0,120,255,315],[435,0,135,195],[300,420,0,60],[240,360,495,0]]
def ordB (F:Mat) (S:List SpotT):Nat→Nat→Nat→MemB→Bool
 | 0,_,s,_=>s == 0
 | f + 1,p,s,m=>s == 0 || (elems s).any fun i=>decide ((bestM F S 5 p s m).1.2=(i:Int)) && ordB F S f (nextP S i) (s - 2 ^ i) (bestM F S 5 p s m).2
theorem z1046 {F:Mat} {S:List SpotT}:∀ (f p s:Nat) (m:MemB),ordB F S f p s m=true→OrdOk F S f p s m
 | 0,_,_,_,h=>by simpa [ordB,OrdOk] using h
 | f + 1,p,s,m,h=>by
  rw [ordB,Bool.or_eq_true,beq_iff_eq,List.any_eq_true] at h
  rcases h with h | ⟨i,hi,h⟩
  ·exact .inl h
  ·rw [Bool.and_eq_true,decide_eq_true_eq] at h
   exact .inr ⟨i,hi,h.1,z1046 f _ _ _ h.2⟩
theorem z1206:exN.Good:=z157.1 fun hb=>by
 have hok:checkPartyF exN exP=0:=by decide +kernel
 rw [checkPartyF,if_pos hb] at hok;simp at hok
theorem z1204:allLL exN exP=exW:=by decide +kernel
theorem z1240:matM exN.places.toNat (allM exN exP)=matM exN.places.toNat (getL exW):=by
 rw [← z1209 exP z1206,z1204]
 decide +kernel
theorem z1239:ordB (getL exW) exS 5 0 (fullN exS) (bestP (getL exW) exS 0).2=true:=by decide +kernel
theorem z1205:planC exN exP (getL exW) 0 exS=([1,2,0],32250,0):=by decide +kernel
theorem z1326:Fn Tryd.prog 14 [] (.bool true):=by
 have h46:=z1319
 have h15:=z1325 exN exM z885 (by decide)
 have h21:=z1300 exN exP (getL exW) 0 exS z885 (.inl (by decide)) (by decide) (fun _=>z1240) (fun _ _=>z1046 _ _ _ _ z1239)
 have h47:=z1254 [3] [3] (by decide)
 have h48:=z1254 [4] [4] (by decide)
 have h49:=z1254 [1,2,0] [1,2,0] (by decide)
 rw [whereD,z1097] at h15
 rw [planD,z1205] at h21
 rw [Missed.row,exM] at h15 h46
 rw [exSpots] at h46
 simp only [exS,intRows,SpotT.row,List.map_cons,List.map_nil,decide_true] at h15 h21 h47 h48 h49
 obtain ⟨N,hN⟩:∃ N,N=exN:=⟨_,rfl⟩
 obtain ⟨p,hp⟩:∃ p,p=exP:=⟨_,rfl⟩
 rw [← hN,← hp] at *
 rw [Net.cells] at *
 rw [Party.cells] at *
 refine z10 56 Tryd.call14 Tryd.func14 rfl (by decide) fun J=>?_
 simp only [go_sem,St.start,Tryd.ntmps14,Tryd.results14,]
 repeat (first | refine nx ?_ | (refine z3 fun K hK=>?_;simp only [go_sem];(repeat (first | (refine ⟨_,.lent (hf:=h46) (hd:=rfl) (hr:=rfl),?_⟩;simp only [go_sem]) | (refine ⟨_,.lent (hf:=h15) (hd:=rfl) (hr:=rfl),?_⟩;simp only [go_sem]) | (refine ⟨_,.lent (hf:=h21) (hd:=rfl) (hr:=rfl),?_⟩;simp only [go_sem]) | (refine ⟨_,.lent (hf:=h47) (hd:=rfl) (hr:=rfl),?_⟩;simp only [go_sem]) | (refine ⟨_,.lent (hf:=h48) (hd:=rfl) (hr:=rfl),?_⟩;simp only [go_sem]) | (refine ⟨_,.lent (hf:=h49) (hd:=rfl) (hr:=rfl),?_⟩;simp only [go_sem]) | (refine ⟨_,.given (hf:=h46) (hd:=rfl) (ha:=rfl),?_⟩;simp only [go_sem]) | (refine ⟨_,.given (hf:=h15) (hd:=rfl) (ha:=rfl),?_⟩;simp only [go_sem]) | (refine ⟨_,.given (hf:=h21) (hd:=rfl) (ha:=rfl),?_⟩;simp only [go_sem]) | (refine ⟨_,.given (hf:=h47) (hd:=rfl) (ha:=rfl),?_⟩;simp only [go_sem]) | (refine ⟨_,.given (hf:=h48) (hd:=rfl) (ha:=rfl),?_⟩;simp only [go_sem]) | (refine ⟨_,.given (hf:=h49) (hd:=rfl) (ha:=rfl),?_⟩;simp only [go_sem])));apply hK;clear hK K))
 simp only [go_sem]
end Go.Ab
namespace Go.Ab
open Go.RowKit Go.Proofs
set_option maxHeartbeats 2000000
def memA (A:List Arv) (p m:Int):Prop:=∃ a ∈ A,a.pl=p∧a.mi=m
def arrFrom (n:Net) (x:Missed) (p lv to t:Int):Prop:=∃ (k:Nat) (y:Path) (b:Bool),n.paths[k]?=some y∧y.frm=p∧y.grade≤x.party.grade∧y.to=to ∧
 wr (lv + (spanW y x.party).lo)≤t∧t≤wr (lv + (spanW y x.party).hi)∧(t,b) ∈ walksL x lv∧atB x.clues to t=true
def Closed (n:Net) (x:Missed) (a:List Arv × List Cnt):Prop:=∀ p lv,hasL a.2 p lv=true→∀ to t,arrFrom n x p lv to t→memA a.1 to t
def Looked (n:Net) (x:Missed) (i:Nat) (a:List Arv × List Cnt):Prop:=Closed n x a∧∀ (j:Nat) s,j<i→a.1[j]?=some s→∀ lv ∈ staysL x s.pl s.mi (wr (s.mi + x.rest)),hasL a.2 s.pl lv=true
end Go.Ab
namespace Go.Ab
open Go.RowKit Go.Proofs
set_option maxHeartbeats 4000000
set_option maxRecDepth 20000
attribute [local irreducible] WalkL Walk
theorem z1244 (n lo hi:Int):Fn Tryd.prog 42 [.i n,.i lo,.i hi] (.bool (withinB n lo hi)):=by
 refine z10 15 Tryd.call42 Tryd.func42 rfl (by decide) fun J=>?_
 simp only [go_sem,St.start,Tryd.ntmps42,Tryd.results42]
 by_cases h:lo≤n
 ·repeat (first | refine nx ?_ | (refine z3 fun K hK=>?_;simp only [go_sem,h,ge_iff_le];apply hK;clear hK K))
  simp only [go_sem,withinB,h]
 ·repeat (first | refine nx ?_ | (refine z3 fun K hK=>?_;simp only [go_sem,h,ge_iff_le];apply hK;clear hK K))
  simp only [go_sem,withinB,h]
def farM (n:Net):Bool:=decide ((n.paths.length:Int) > 60) || (n.paths.any (fun x=>decide ((x.opens.length:Int) > 20)) || (!badNet n && (decide (n.places > 5) || decide ((n.paths.length:Int) > 8))))
theorem z1323 (n:Net) (hs:n.Small):Fn Tryd.prog 22 [.agg n.cells] (.bool (farM n)):=by
 have h27:=z1252 n hs
 have hb0:=hs.paths
 refine z10 37 Tryd.call22 Tryd.func22 rfl (by decide) fun J=>?_
 simp only [go_sem,St.start,Tryd.ntmps22,Tryd.results22,Net.cells]
 repeat (first | refine nx ?_ | (refine z3 fun K hK=>?_;simp only [go_sem];apply hK;clear hK K))
 refine z5 rfl (fun hc=>?_) (fun hc=>?_)
 ·repeat (first | refine nx ?_ | (refine z3 fun K hK=>?_;simp only [go_sem];apply hK;clear hK K))
  simp only [go_sem,farM,hc]
 ·repeat (first | refine nx ?_ | (refine z3 fun K hK=>?_;simp only [go_sem];apply hK;clear hK K))
  refine z13 (fun (i:Nat)=>[(3,.d (.i i))]) (fun _=>[]) (fun i=>i≤n.paths.length∧(n.paths.take i).any (fun x=>decide ((x.opens.length:Int) > 20))=false) (fun i=>n.paths.length - i) 0 ?_ ⟨Nat.zero_le _,rfl⟩ ?_
  ·simp only [go_sem]
   refine weA ?_ ?_ <;> simp
  ·intro i ⟨hi,hall⟩
   simp only [go_sem]
   repeat (first | refine nx ?_ | (refine z3 fun K hK=>?_;simp only [go_sem];apply hK;clear hK K))
   refine z5 rfl (fun hb=>?_) (fun hb=>?_)
   ·have hlt:i<n.paths.length:=by simpa using hb
    have hw:IntKind.i64.wrap ((i:Int) + 1)=((i + 1:Nat):Int):=by rw [z9 (by omega)];simp
    obtain ⟨x,hx⟩:∃ x,n.paths[i]?=some x:=⟨_,List.getElem?_eq_getElem hlt⟩
    repeat (first | refine nx ?_ | (refine z3 fun K hK=>?_;simp only [go_sem,hx,List.getElem?_map,Path.row];apply hK;clear hK K))
    refine z5 rfl (fun hd=>?_) (fun hd=>?_)
    ·repeat (first | refine nx ?_ | (refine z3 fun K hK=>?_;simp only [go_sem];apply hK;clear hK K))
     have ha:=z112 (q:=fun x:Path=>decide ((x.opens.length:Int) > 20)) hx hd
     simp only [go_sem,farM,hc,ha]
    ·repeat (first | refine nx ?_ | (refine z3 fun K hK=>?_;simp only [go_sem,hw];apply hK;clear hK K))
     refine ⟨rfl,i + 1,?_,⟨hlt,z77 hx hall hd⟩,by omega⟩
     refine weA ?_ ?_ <;> simp
   ·have he:i=n.paths.length:=by (have:¬ i<n.paths.length:=by simpa using hb);omega
    subst he
    rw [List.take_length] at hall
    have hf:farM n=(!badNet n && (decide (n.places > 5) || decide ((n.paths.length:Int) > 8))):=by unfold farM;rw [hc,hall];rfl
    rw [hf]
    by_cases hbad:badNet n=true
    ·repeat (first | refine nx ?_ | (refine z3 fun K hK=>?_;simp only [go_sem,checkF,hbad];(repeat (first | (refine ⟨_,.lent (hf:=h27) (hd:=rfl) (hr:=rfl),?_⟩;simp only [go_sem,checkF,hbad]) | (refine ⟨_,.given (hf:=h27) (hd:=rfl) (ha:=rfl),?_⟩;simp only [go_sem,checkF,hbad])));apply hK;clear hK K))
     try simp only [go_sem,hbad]
    ·by_cases hp:n.places > 5
     ·repeat (first | refine nx ?_ | (refine z3 fun K hK=>?_;simp only [go_sem,checkF,hbad,hp];(repeat (first | (refine ⟨_,.lent (hf:=h27) (hd:=rfl) (hr:=rfl),?_⟩;simp only [go_sem,checkF,hbad,hp]) | (refine ⟨_,.given (hf:=h27) (hd:=rfl) (ha:=rfl),?_⟩;simp only [go_sem,checkF,hbad,hp])));apply hK;clear hK K))
      simp only [go_sem,hbad,hp]
     ·repeat (first | refine nx ?_ | (refine z3 fun K hK=>?_;simp only [go_sem,checkF,hbad,hp];(repeat (first | (refine ⟨_,.lent (hf:=h27) (hd:=rfl) (hr:=rfl),?_⟩;simp only [go_sem,checkF,hbad,hp]) | (refine ⟨_,.given (hf:=h27) (hd:=rfl) (ha:=rfl),?_⟩;simp only [go_sem,checkF,hbad,hp])));apply hK;clear hK K))
      simp only [go_sem,hbad,hp]
end Go.Ab
namespace Go.Ab
open Go.RowKit Go.Proofs
set_option maxHeartbeats 8000000
set_option maxRecDepth 20000
attribute [local irreducible] WalkL Walk
def badMiss (n:Net) (x:Missed):Bool:=!withinB x.place 0 (n.places - 1) || (!withinB x.start 0 x.now || (decide (x.now > 2880) || !withinB x.rest 0 600))
end Go.Ab
namespace Go.Ab
open Go.RowKit Go.Proofs
set_option maxHeartbeats 8000000
set_option maxRecDepth 20000
attribute [local irreducible] WalkL Walk
def farX (n:Net) (x:Missed):Bool:=farM n || (decide ((x.clues.length:Int) > 30) || (openX n x == 0 && (decide (wr (x.now - x.start) > 60) || (decide (x.rest > 10) || decide ((x.clues.length:Int) > 6)))))
structure Hike where
 m:Missed
 to:Int
 times:List Int
def Hike.row (x:Hike):List DV:=x.m.row++[.i x.to,.sl (intRows x.times)]
def inH (x:Hike) (i:Nat) (s:Span):Bool:=match x.times[i]? with
 | some v=>decide (v ≥ s.lo) && decide (v≤s.hi)
 | none=>false
def timeH (x:Hike) (i:Nat) (s:Span):Int:=if inH x i s then getI x.times i else s.hi
def hikeR (n:Net) (x:Hike):Nat→List Int→Int→Int→Int × Int × Bool
 | _,[],a,_=>(a,-1,true)
 | i,r::rs,a,t=>match n.paths[r.toNat]? with
  | none=>(0,0,false)
  | some y =>
   if enterF y.opens t ≥ x.m.now then (a,-1,true)
   else if enterF y.opens t > wr (t + x.m.rest) then (0,0,false)
   else if wr (enterF y.opens t + timeH x i (spanW y x.m.party)) > x.m.now then (-1,r,true)
   else hikeR n x (i + 1) rs y.to (wr (enterF y.opens t + timeH x i (spanW y x.m.party)))
def hikedF (n:Net) (x:Hike) (route:List Int):Int × Int × Bool:=hikeR n x 0 route x.m.place x.m.start
end Go.Ab
namespace Go.Ab
open Go.RowKit Go.Proofs
set_option maxHeartbeats 2000000
end Go.Ab
namespace Go.Ab
open Go.RowKit Go.Proofs
set_option maxHeartbeats 2000000
def Small01 (K:Int) (a:List Int × List Int):Prop:=(∀ j:Nat,0≤a.1.getD j 0∧a.1.getD j 0≤K)∧∀ j:Nat,0≤a.2.getD j 0∧a.2.getD j 0≤K
end Go.Ab
namespace Go.Ab
open Go.RowKit Go.Proofs
set_option maxHeartbeats 2000000
def LegOk (n:Net) (x:Missed) (A:List Arv) (a:Arv):Prop :=
 (a.pa=-1∧a.pl=x.place∧a.mi=x.start∧atB x.clues x.place x.start=true) ∨
 ∃ (k:Nat) (y:Path) (b:Bool),a.pa=k∧n.paths[k]?=some y∧y.frm=a.fp∧y.grade≤x.party.grade∧y.to=a.pl∧memA A a.fp a.fm∧a.lv ∈ staysL x a.fp a.fm (wr (a.fm + x.rest)) ∧
  wr (a.lv + (spanW y x.party).lo)≤a.mi∧a.mi≤wr (a.lv + (spanW y x.party).hi)∧(a.mi,b) ∈ walksL x a.lv∧atB x.clues a.pl a.mi=true
def LegsOk (n:Net) (x:Missed) (A:List Arv):Prop:=∀ (j:Nat) a,A[j]?=some a→LegOk n x (A.take j) a
theorem LegOk.mono {n:Net} {x:Missed} {A B:List Arv} {a:Arv} (hs:∀ p m,memA A p m→memA B p m) (h:LegOk n x A a):LegOk n x B a:=by
 rcases h with h | ⟨k,y,b,h1,h2,h3,h4,h5,h6,h7⟩
 ·exact .inl h
 ·exact .inr ⟨k,y,b,h1,h2,h3,h4,h5,hs _ _ h6,h7⟩
inductive Reached (n:Net) (x:Missed):Int→Int→Prop where
 | start:atB x.clues x.place x.start=true→Reached n x x.place x.start
 | step {p m lv to t:Int}:Reached n x p m→lv ∈ staysL x p m (wr (m + x.rest))→arrFrom n x p lv to t→Reached n x to t
def CanIn (n:Net) (x:Missed) (p:Int):Prop:=∃ m,Reached n x p m∧x.now ∈ staysL x p m x.now
def CanOn (n:Net) (x:Missed) (k:Int):Prop:=∃ (j:Nat) (y:Path) (m lv:Int),k=j∧n.paths[j]?=some y∧y.grade≤x.party.grade∧Reached n x y.frm m∧lv ∈ staysL x y.frm m (wr (m + x.rest))∧lv≠x.now∧seenF x.clues≤lv
end Go.Ab
namespace Go.Ab
open Go.RowKit Go.Proofs
set_option maxHeartbeats 2000000
def deniedB (cl:List Clue) (pl m:Int):Bool:=cl.any fun c=>c.minute == m && ((decide (pl ≥ 0) && hasB c.places pl) != c.seen)
def stayD (cl:List Clue) (pl a b:Int):Bool:=(List.range (b + 1 - a).toNat).all fun i=>!deniedB cl pl (a + i)
structure PassT where
 pl:Int
 ar:Int
 lv:Int
 pa:Int
def PassT.row (a:PassT):List DV:=[.i a.pl,.i a.ar,.i a.lv,.i a.pa]
def isPathB (n:Net) (k:Int):Bool:=withinB k 0 ((n.paths.length:Int) - 1)
def traceR (n:Net) (x:Missed):List PassT→Int→Int→Bool
 | [],_,_=>false
 | q::l,pl,ar=>decide (q.pl=pl) && (decide (q.ar=ar) && (withinB q.lv ar x.now && (stayD x.clues pl ar q.lv &&
  (if q.pa=-1 then decide (q.lv=x.now) && l.isEmpty else
   isPathB n q.pa && (match n.paths[q.pa.toNat]? with
    | none=>false
    | some y=>decide (y.frm=pl) && (decide (y.grade≤x.party.grade) && (decide (q.lv≤wr (ar + x.rest)) && (match l with
     | []=>decide (q.lv<x.now) && stayD x.clues (-1) (wr (q.lv + 1)) x.now
     | r::_=>withinB r.ar (wr (q.lv + (spanW y x.party).lo)) (wr (q.lv + (spanW y x.party).hi)) && (decide (r.ar≤x.now) && (stayD x.clues (-1) (wr (q.lv + 1)) (wr (r.ar - 1)) && traceR n x l y.to r.ar))))))))))
end Go.Ab
namespace Go.Ab
open Go.RowKit Go.Proofs
set_option maxHeartbeats 8000000
set_option maxRecDepth 20000
attribute [local irreducible] WalkL Walk
end Go.Ab
namespace Go.Ab
open Go.RowKit Go.Proofs
set_option maxHeartbeats 8000000
set_option maxRecDepth 20000
attribute [local irreducible] WalkL Walk
structure SearchT where
 party:Party
 bases:List Int
 spots:List SpotT
 minutes:Int
def SearchT.row (x:SearchT):List DV:=[.i x.party.grade,.i x.party.load,.i x.party.pace.lo,.i x.party.pace.hi,.sl (intRows x.bases),.sl (x.spots.map SpotT.row),.i x.minutes]
def farSe (x:SearchT):Bool:=(decide ((x.spots.length:Int) > 5) && decide ((x.spots.length:Int)≤8)) || (decide ((x.spots.length:Int) > 30) || decide ((x.bases.length:Int) > 20))
theorem z1320 (x:SearchT):Fn Tryd.prog 37 [.agg x.row] (.bool (farSe x)):=by
 have h1:=z14 x.bases
 have h2:(x.spots.map SpotT.row).length=x.spots.length:=by simp
 refine z10 25 Tryd.call37 Tryd.func37 rfl (by decide) fun J=>?_
 simp only [go_sem,St.start,Tryd.ntmps37,Tryd.results37,SearchT.row]
 rw [farSe]
 cases q1:decide ((x.spots.length:Int) > 5) <;> cases q2:decide ((x.spots.length:Int)≤8) <;> cases q3:decide ((x.spots.length:Int) > 30) <;> cases q4:decide ((x.bases.length:Int) > 20)
 all_goals
  repeat (first | refine nx ?_ | (refine z3 fun K hK=>?_;simp only [go_sem,q1,q2,q3,q4,h1,h2,List.length_map];apply hK;clear hK K))
 all_goals
  simp only [go_sem,q1,q2,q3,q4,Bool.true_and,Bool.false_and,Bool.and_true,Bool.and_false,Bool.true_or,Bool.false_or,Bool.or_true,Bool.or_false]
theorem z1103 (n:Net) (bases:List Int) (S:List SpotT):badTeams n bases S=((!withinB S.length 1 8 || !withinB bases.length 1 3) || (S.any (badSpot n) || bases.any (badBase n))):=by
 rw [badTeams]
 cases !withinB (S.length:Int) 1 8 <;> cases S.any (badSpot n) <;> cases !withinB (bases.length:Int) 1 3 <;> cases bases.any (badBase n) <;> rfl
theorem z1316 (n:Net) (p:Party) (bases:List Int) (S:List SpotT) (hs:n.Small) (hb:bases.length<2 ^ 30) (hl:S.length<2 ^ 30) :
  Fn Tryd.prog 52 [.agg n.cells,.agg p.cells,.sl (intRows bases),.sl (S.map SpotT.row)] (.i (readyE n p bases S)):=by
 have h23:=z1322 n p hs
 have hrl:=z14 bases
 have hsl:(S.map SpotT.row).length=S.length:=by simp
 rw [readyE]
 by_cases hc:checkPartyF n p=0
 ·obtain ⟨hg,hp⟩:=z127.1 hc
  have hpl:=hg.places
  have h24:=fun v=>z1255 n v (by omega)
  rw [if_neg (fun h=>h hc),z1103]
  rw [hc] at h23
  rw [Net.cells] at *
  rw [Party.cells] at *
  refine z10 73 Tryd.call52 Tryd.func52 rfl (by decide) fun J=>?_
  simp only [go_sem,St.start,Tryd.ntmps52,Tryd.results52,Net.cells,Party.cells]
  repeat (first | refine nx ?_ | (refine z3 fun K hK=>?_;simp only [go_sem];(repeat (first | (refine ⟨_,.lent (hf:=h23) (hd:=rfl) (hr:=rfl),?_⟩;simp only [go_sem]) | (refine ⟨_,.given (hf:=h23) (hd:=rfl) (ha:=rfl),?_⟩;simp only [go_sem])));apply hK;clear hK K))
  refine z6 (by rfl) ?_
  repeat (first | refine z27 ?_ | refine z42 ?_)
  refine z22 [(27,.d (.bool (!withinB S.length 1 8 || !withinB bases.length 1 3)))] [] ?_ ?_
  ·refine z3 fun K hK=>?_
   simp only [go_sem,hrl,hsl,List.length_map]
   refine ⟨_,.lent (hf:=z1244 S.length 1 8) (hd:=rfl) (hr:=rfl),?_⟩
   simp only [go_sem,hrl,hsl,List.length_map]
   by_cases ho0:(!withinB S.length 1 8)=true
   ·simp only [go_sem,hrl,hsl,List.length_map,ho0]
    apply hK
    clear hK K
    refine z8 ?_
    refine z4 ?_
    refine ⟨rfl,?_⟩
    rw [show (!withinB S.length 1 8 || !withinB bases.length 1 3)=(true) from by simp [ho0]]
    simp only [go_sem]
    refine weA ?_ ?_ <;> simp
   ·simp only [go_sem,hrl,hsl,List.length_map,ho0]
    refine ⟨_,.lent (hf:=z1244 bases.length 1 3) (hd:=rfl) (hr:=rfl),?_⟩
    simp only [go_sem,hrl,hsl,List.length_map,ho0]
    apply hK
    clear hK K
    refine z8 ?_
    refine z4 ?_
    refine ⟨rfl,?_⟩
    rw [show (!withinB S.length 1 8 || !withinB bases.length 1 3)=(!withinB bases.length 1 3) from by simp [ho0]]
    simp only [go_sem]
    refine weA ?_ ?_ <;> simp
  simp only [go_sem]
  by_cases hbl:(!withinB S.length 1 8 || !withinB bases.length 1 3)=true
  ·rw [hbl,Bool.true_or,if_pos rfl]
   refine z5 (b:=true) (by rw [← hbl];rfl) (fun _=>?_) (fun hc=>by cases hc)
   repeat (first | refine nx ?_ | (refine z3 fun K hK=>?_;simp only [go_sem];apply hK;clear hK K))
   simp only [go_sem]
  ·have hbl:(!withinB S.length 1 8 || !withinB bases.length 1 3)=false:=by simpa using hbl
   rw [hbl,Bool.false_or]
   refine z5 (b:=false) (by rw [← hbl];rfl) (fun hc=>by cases hc) (fun _=>?_)
   repeat (first | refine nx ?_ | (refine z3 fun K hK=>?_;simp only [go_sem];apply hK;clear hK K))
   refine z13 (fun (i:Nat)=>[(10,.d (.i i))]) (fun _=>[]) (fun i=>i≤S.length∧(S.take i).any (badSpot n)=false) (fun i=>S.length - i) 0 ?_ ⟨Nat.zero_le _,rfl⟩ ?_
   ·simp only [go_sem]
    refine weA ?_ ?_ <;> simp
   ·intro i ⟨hi,hall⟩
    simp only [go_sem]
    repeat (first | refine nx ?_ | (refine z3 fun K hK=>?_;simp only [go_sem,hsl];apply hK;clear hK K))
    refine z5 rfl (fun hb=>?_) (fun hb=>?_)
    ·have hlt:i<S.length:=by simpa using hb
     have hw:IntKind.i64.wrap ((i:Int) + 1)=((i + 1:Nat):Int):=by rw [z9 (by omega)];simp
     obtain ⟨s,hsi⟩:∃ s,S[i]?=some s:=⟨_,List.getElem?_eq_getElem hlt⟩
     have g1:(S.map SpotT.row)[i]?=some [.i s.pl,.i s.wt,.i s.se]:=by rw [List.getElem?_map,hsi];rfl
     have nk:¬ ((i:Int)<0):=by omega
     repeat refine nx ?_
     refine z22 [(59,.d (.bool (badSpot n s)))] [] ?_ ?_
     ·refine z7 (by kernel_rfl) (by kernel_rfl) fun K hK=>?_
      simp only [go_sem,g1,nk,hlt,hsl,List.length_map]
      refine ⟨_,.fn (hf:=h24 s.pl) (hd:=rfl) (hr:=.inl rfl),?_⟩
      simp only [go_sem,g1,nk,hlt,hsl,List.length_map]
      by_cases ho0:(!withinB s.pl 0 (n.places - 1))=true
      ·simp only [go_sem,g1,nk,hlt,hsl,List.length_map,ho0]
       refine ⟨by kernel_rfl,hK _ ?_⟩
       clear hK K
       refine z8 ?_
       refine z4 ?_
       refine ⟨rfl,?_⟩
       rw [show (badSpot n s)=(true) from by simp [badSpot,ho0]]
       simp only [go_sem]
       refine weA ?_ ?_ <;> simp
      ·simp only [go_sem,g1,nk,hlt,hsl,List.length_map,ho0]
       refine ⟨_,.fn (hf:=z1244 s.wt 0 100) (hd:=rfl) (hr:=.inl rfl),?_⟩
       simp only [go_sem,g1,nk,hlt,hsl,List.length_map,ho0]
       by_cases ho1:(!withinB s.wt 0 100)=true
       ·simp only [go_sem,g1,nk,hlt,hsl,List.length_map,ho0,ho1]
        refine ⟨by kernel_rfl,hK _ ?_⟩
        clear hK K
        refine z8 ?_
        refine z4 ?_
        refine ⟨rfl,?_⟩
        rw [show (badSpot n s)=(true) from by simp [badSpot,ho0,ho1]]
        simp only [go_sem]
        refine weA ?_ ?_ <;> simp
       ·simp only [go_sem,g1,nk,hlt,hsl,List.length_map,ho0,ho1]
        refine ⟨_,.fn (hf:=z1244 s.se 0 600) (hd:=rfl) (hr:=.inl rfl),?_⟩
        simp only [go_sem,g1,nk,hlt,hsl,List.length_map,ho0,ho1]
        refine ⟨by kernel_rfl,hK _ ?_⟩
        clear hK K
        refine z8 ?_
        refine z4 ?_
        refine ⟨rfl,?_⟩
        rw [show (badSpot n s)=(!withinB s.se 0 600) from by simp [badSpot,ho0,ho1]]
        simp only [go_sem]
        refine weA ?_ ?_ <;> simp
     simp only [go_sem]
     by_cases hbs:badSpot n s=true
     ·rw [z112 (q:=badSpot n) hsi hbs,Bool.true_or,if_pos rfl]
      refine z5 (b:=true) (by rw [← hbs];rfl) (fun _=>?_) (fun hc=>by cases hc)
      repeat (first | refine nx ?_ | (refine z3 fun K hK=>?_;simp only [go_sem];apply hK;clear hK K))
      simp only [go_sem]
     ·have hbs:badSpot n s=false:=by simpa using hbs
      refine z5 (b:=false) (by rw [← hbs];rfl) (fun hc=>by cases hc) (fun _=>?_)
      repeat (first | refine nx ?_ | (refine z3 fun K hK=>?_;simp only [go_sem,hw];apply hK;clear hK K))
      refine ⟨rfl,i + 1,?_,⟨hlt,z77 hsi hall hbs⟩,by omega⟩
      try simp only [go_sem]
      refine weA ?_ ?_ <;> simp
    ·have he:i=S.length:=by (have:¬ i<S.length:=by simpa using hb);omega
     subst he
     rw [List.take_length] at hall
     rw [hall,Bool.false_or]
     repeat (first | refine nx ?_ | (refine z3 fun K hK=>?_;simp only [go_sem];apply hK;clear hK K))
     refine z13 (fun (i:Nat)=>[(11,.d (.i i))]) (fun _=>[]) (fun i=>i≤bases.length∧(bases.take i).any (badBase n)=false) (fun i=>bases.length - i) 0 ?_ ⟨Nat.zero_le _,rfl⟩ ?_
     ·simp only [go_sem]
      refine weA ?_ ?_ <;> simp
     ·intro i ⟨hi,hall2⟩
      simp only [go_sem]
      repeat (first | refine nx ?_ | (refine z3 fun K hK=>?_;simp only [go_sem,hrl];apply hK;clear hK K))
      refine z5 rfl (fun hb=>?_) (fun hb=>?_)
      ·have hlt:i<bases.length:=by simpa using hb
       have hw:IntKind.i64.wrap ((i:Int) + 1)=((i + 1:Nat):Int):=by rw [z9 (by omega)];simp
       obtain ⟨v,hvi⟩:∃ s,bases[i]?=some s:=⟨_,List.getElem?_eq_getElem hlt⟩
       have g1:=z110 hvi
       have nk:¬ ((i:Int)<0):=by omega
       have h24v:=h24 v
       cases hbs:badBase n v
       ·have hbs2:withinB v 0 (n.places - 1)=true:=by simpa [badBase] using hbs
        rw [hbs2] at h24v
        repeat (first | refine nx ?_ | (refine z3 fun K hK=>?_;simp only [go_sem];apply hK;clear hK K))
        refine z7 (by kernel_rfl) (by kernel_rfl) fun K hK=>?_
        simp only [go_sem,g1,nk,hlt,hrl]
        refine ⟨_,.fn (hf:=h24v) (hd:=rfl) (hr:=.inl rfl),?_⟩
        simp only [go_sem]
        refine ⟨by kernel_rfl,hK _ ?_⟩
        clear hK K
        refine z6 rfl ?_
        repeat (first | refine nx ?_ | (refine z3 fun K hK=>?_;simp only [go_sem,hw];apply hK;clear hK K))
        refine ⟨rfl,i + 1,?_,⟨hlt,z77 hvi hall2 hbs⟩,by omega⟩
        try simp only [go_sem]
        refine weA ?_ ?_ <;> simp
       ·have hbs2:withinB v 0 (n.places - 1)=false:=by simpa [badBase] using hbs
        rw [hbs2] at h24v
        rw [z112 (q:=badBase n) hvi hbs,if_pos rfl]
        repeat (first | refine nx ?_ | (refine z3 fun K hK=>?_;simp only [go_sem];apply hK;clear hK K))
        refine z7 (by kernel_rfl) (by kernel_rfl) fun K hK=>?_
        simp only [go_sem,g1,nk,hlt,hrl]
        refine ⟨_,.fn (hf:=h24v) (hd:=rfl) (hr:=.inl rfl),?_⟩
        simp only [go_sem]
        refine ⟨by kernel_rfl,hK _ ?_⟩
        clear hK K
        refine z11 rfl ?_
        repeat (first | refine nx ?_ | (refine z3 fun K hK=>?_;simp only [go_sem];apply hK;clear hK K))
        simp only [go_sem]
      ·have he:i=bases.length:=by (have:¬ i<bases.length:=by simpa using hb);omega
       subst he
       rw [List.take_length] at hall2
       rw [hall2,if_neg (by decide)]
       repeat (first | refine nx ?_ | (refine z3 fun K hK=>?_;simp only [go_sem];apply hK;clear hK K))
       simp only [go_sem]
 ·rw [if_pos hc]
  have hne:(checkPartyF n p != 0)=true:=by simpa using hc
  rw [Net.cells] at *
  rw [Party.cells] at *
  refine z10 73 Tryd.call52 Tryd.func52 rfl (by decide) fun J=>?_
  simp only [go_sem,St.start,Tryd.ntmps52,Tryd.results52,Net.cells,Party.cells]
  repeat (first | refine nx ?_ | (refine z3 fun K hK=>?_;simp only [go_sem,hne];(repeat (first | (refine ⟨_,.lent (hf:=h23) (hd:=rfl) (hr:=rfl),?_⟩;simp only [go_sem,hne]) | (refine ⟨_,.given (hf:=h23) (hd:=rfl) (ha:=rfl),?_⟩;simp only [go_sem,hne])));apply hK;clear hK K))
  refine z11 rfl ?_
  repeat (first | refine nx ?_ | (refine z3 fun K hK=>?_;simp only [go_sem];apply hK;clear hK K))
  simp only [go_sem]
def searchB (n:Net) (x:SearchT):Bool:=!farM n && (!farSe x && readyE n x.party x.bases x.spots == 0)
theorem z1324 (n:Net) (x:SearchT) (hs:n.Small) (hb:x.bases.length<2 ^ 30) (hl:x.spots.length<2 ^ 30):Fn Tryd.prog 20 [.agg n.cells,.agg x.row] (.bool (searchB n x)):=by
 have h22:=z1323 n hs
 have h37:=z1320 x
 have h52:=z1316 n x.party x.bases x.spots hs hb hl
 rw [Net.cells] at *
 rw [SearchT.row] at *
 rw [Party.cells] at h52
 rw [searchB]
 refine z10 24 Tryd.call20 Tryd.func20 rfl (by decide) fun J=>?_
 simp only [go_sem,St.start,Tryd.ntmps20,Tryd.results20,Net.cells,SearchT.row]
 cases q1:farM n <;> cases q2:farSe x <;> rw [q1] at h22 <;> rw [q2] at h37
 all_goals
  repeat (first | refine nx ?_ | (refine z3 fun K hK=>?_;simp only [go_sem];(repeat (first | (refine ⟨_,.lent (hf:=h22) (hd:=rfl) (hr:=rfl),?_⟩;simp only [go_sem]) | (refine ⟨_,.lent (hf:=h37) (hd:=rfl) (hr:=rfl),?_⟩;simp only [go_sem]) | (refine ⟨_,.lent (hf:=h52) (hd:=rfl) (hr:=rfl),?_⟩;simp only [go_sem]) | (refine ⟨_,.given (hf:=h22) (hd:=rfl) (ha:=rfl),?_⟩;simp only [go_sem]) | (refine ⟨_,.given (hf:=h37) (hd:=rfl) (ha:=rfl),?_⟩;simp only [go_sem]) | (refine ⟨_,.given (hf:=h52) (hd:=rfl) (ha:=rfl),?_⟩;simp only [go_sem])));apply hK;clear hK K))
 all_goals
  simp only [go_sem,Bool.not_true,Bool.not_false,Bool.true_and,Bool.false_and]
end Go.Ab
namespace Go.Ab
open Go.RowKit Go.Proofs
set_option maxHeartbeats 8000000
set_option maxRecDepth 20000
attribute [local irreducible] WalkL Walk
def oneT (b:Int) (s:SpotT):SpotT:={ s with pl:=b }
def oneS (b:Int) (S:List SpotT):List SpotT:=S.map (oneT b)
theorem z46 (b:Int) (S:List SpotT):(oneS b S).length=S.length:=by simp [oneS]
theorem z653 {n:Net} {p:Party} {bases:List Int} {S:List SpotT} {b:Int} (h:readyE n p bases S=0) (hb:b ∈ bases):readyE n p [b] (oneS b S)=0:=by
 obtain ⟨hn,hp,hl,hsp,_,hbs⟩:=z121 h
 have hb:=hbs b hb
 rw [readyE,if_neg (fun hh=>hh (z127.2 ⟨hn,hp⟩)),if_neg]
 intro hbad
 simp only [badTeams,Bool.or_eq_true,Bool.not_eq_true',List.any_eq_true,z46] at hbad
 rcases hbad with hbad | ⟨s,hs,hbad⟩ | hbad | ⟨v,hv,hbad⟩
 ·have:withinB (S.length:Int) 1 8=true:=z17.2 ⟨by omega,by omega⟩
  rw [this] at hbad;cases hbad
 ·obtain ⟨t,ht,rfl⟩:=List.mem_map.1 hs
  have h3:=hsp t ht
  simp only [badSpot,oneT,Bool.or_eq_true,Bool.not_eq_true'] at hbad
  have w1:withinB b 0 (n.places - 1)=true:=z17.2 ⟨by omega,by omega⟩
  have w2:withinB t.wt 0 100=true:=z17.2 ⟨by omega,by omega⟩
  have w3:withinB t.se 0 600=true:=z17.2 ⟨by omega,by omega⟩
  rw [w1,w2,w3] at hbad
  simp at hbad
 ·simp [withinB] at hbad
 ·have:v=b:=by simpa using hv
  subst this
  have w1:withinB v 0 (n.places - 1)=true:=z17.2 ⟨by omega,by omega⟩
  rw [badBase,w1] at hbad
  cases hbad
theorem z953 {n:Net} {p:Party} {bases:List Int} {S:List SpotT} {b:Int} (h:readyE n p bases S=0) (hb:b ∈ bases) (hl:S.length≤5) :
  ∃ (O:List Int) (c:Int),planC n p (allM n p) b (oneS b S)=(O,c,0)∧0≤c∧O.length=S.length∧(∀ x ∈ O,∃ i:Nat,x=(i:Int)∧i<S.length) ∧
   ∀ (j i k:Nat),O[j]?=some (i:Int)→O[j + 1]?=some (k:Int)→(spotAt (oneS b S) k).wt * (spotAt (oneS b S) i).se≤(spotAt (oneS b S) i).wt * (spotAt (oneS b S) k).se:=by
 have h1:=z653 h hb
 obtain ⟨hn,hp,_,hsp,_,hbs⟩:=z121 h
 obtain ⟨_,_,_,hsp1,_,_⟩:=z121 h1
 have hbb:=hbs b hb
 have hl1:(oneS b S).length≤5:=by rw [z46];exact hl
 have hN:=z427 h1 hl1
 have hO:OneB n.places.toNat b.toNat (allM n p) (oneS b S):=by
  refine ⟨hN,by omega,?_,fun i hi=>?_,fun s hs=>(hsp1 s hs).2.1,fun s hs=>(hsp1 s hs).2.2⟩
  ·obtain ⟨hS,hL⟩:=z894 hn hp
   have h1:=hL _ _ _ _ (ChainW.nil (n:=n) (p:=p) b.toNat) (by omega) (fun x hx=>by simp at hx)
   have h2:=(hS b.toNat b.toNat).1
   omega
  ·have hm:=List.mem_of_getElem? (z50 hi)
   obtain ⟨t,_,ht⟩:=List.mem_map.1 hm
   rw [nextP,← ht]
   rfl
 have h32:=z851 hl1
 have hS:∀ i ∈ elems (fullN (oneS b S)),i<(oneS b S).length:=z526 _ hl1
 obtain ⟨b1,b2⟩:=z142 (F:=allM n p) (S:=oneS b S) 5 b.toNat (fullN (oneS b S)) ([],0) h32 (z33 _ h32) (Nat.le_refl _) (fun e he=>by simp at he)
 have hsm:=z320 hO 5 (fullN (oneS b S)) h32 hS (z33 _ h32)
 have hrg:=z161 hN 5 b.toNat (fullN (oneS b S)) (by omega) h32 hS
 obtain ⟨r1,r2,_,r4⟩:=z430 hO 5 (fullN (oneS b S)) _ h32 hS (z33 _ h32) b2
 have hfl:∀ k:Nat,k≤5→(elems (2 ^ k - 1)).length=k:=by decide +kernel
 have hc:¬ (bestP (allM n p) (oneS b S) b.toNat).1.1 ≥ farW:=by
  have hfw:farW=1099511627776:=rfl
  rw [bestP,b1];omega
 refine ⟨orderP (allM n p) (oneS b S) b.toNat,(bestP (allM n p) (oneS b S) b.toNat).1.1,?_,?_,?_,?_,?_⟩
 ·rw [planC,if_neg (fun hh=>hh h1),if_neg hc]
 ·rw [bestP,b1];exact hrg.1
 ·rw [orderP,bestP,r1,fullN,hfl _ hl1,z46]
 ·intro x hx
  rw [orderP,bestP] at hx
  obtain ⟨i,hi,hie⟩:=r2 x hx
  exact ⟨i,hi,by have:=hS i hie;rwa [z46] at this⟩
 ·intro j i k hj hk
  rw [orderP,bestP] at hj hk
  exact r4 j i k hj hk
end Go.Ab
namespace Go.Ab
open Go.RowKit Go.Proofs
set_option maxHeartbeats 16000000
set_option maxRecDepth 20000
attribute [local irreducible] WalkL Walk
def partS (b:Int) (S:List SpotT) (i:Nat):List (List DV):=((S.take i).map (oneT b)).map SpotT.row++(S.drop i).map SpotT.row
theorem z961 (b:Int) (S:List SpotT):partS b S 0=S.map SpotT.row:=by simp [partS]
theorem z1043 (b:Int) (S:List SpotT) (i:Nat):(partS b S i).length=S.length:=by simp [partS];omega
theorem z1044 {b:Int} {S:List SpotT} {i:Nat} {s:SpotT} (h:S[i]?=some s):(partS b S i)[i]?=some s.row:=by
 have hl:=(List.getElem?_eq_some_iff.1 h).1
 rw [partS,List.getElem?_append_right (by simp;omega)]
 simp [h,Nat.min_eq_left (Nat.le_of_lt hl)]
theorem z1042 {b:Int} {S:List SpotT} {i:Nat} {s:SpotT} (h:S[i]?=some s):(partS b S i).set i (oneT b s).row=partS b S (i + 1):=by
 have hl:=(List.getElem?_eq_some_iff.1 h).1
 rw [partS,partS,List.set_append_right _ _ (by simp;omega),List.take_add_one,h,z74 h]
 simp [Nat.min_eq_left (Nat.le_of_lt hl)]
theorem z1045 (b:Int) (S:List SpotT):partS b S S.length=(oneS b S).map SpotT.row:=by simp [partS,oneS]
theorem z821 (l:List SpotT):headIs 3 (l.map SpotT.row)=true:=by cases l <;> rfl
theorem zf5 (n:Net) (x:SearchT) (hs:n.Small) (hb:x.bases.length<2 ^ 30) (hl:x.spots.length<2 ^ 30):Fn Tryd.prog 5 [.agg n.cells,.agg x.row] (.bool true):=by
 have h20:=z1324 n x hs hb hl
 have h14:=z1326
 have hrb:=z14 x.bases
 have hsl:(x.spots.map SpotT.row).length=x.spots.length:=by simp
 obtain ⟨p,bases,S,mins⟩:=x
 dsimp only at hb hl hrb hsl
 cases hv:searchB n ⟨p,bases,S,mins⟩
 ·rw [hv] at h20
  rw [Net.cells] at *
  rw [SearchT.row] at *
  refine z10 111 Tryd.call5 Tryd.func5 rfl (by decide) fun J=>?_
  simp only [go_sem,St.start,Tryd.ntmps5,Tryd.results5,Net.cells,SearchT.row]
  repeat (first | refine nx ?_ | (refine z3 fun K hK=>?_;simp only [go_sem];(repeat (first | (refine ⟨_,.lent (hf:=h20) (hd:=rfl) (hr:=rfl),?_⟩;simp only [go_sem]) | (refine ⟨_,.given (hf:=h20) (hd:=rfl) (ha:=rfl),?_⟩;simp only [go_sem])));apply hK;clear hK K))
  refine z11 rfl ?_
  repeat (first | refine nx ?_ | (refine z3 fun K hK=>?_;simp only [go_sem];(repeat (first | (refine ⟨_,.lent (hf:=h14) (hd:=rfl) (hr:=rfl),?_⟩;simp only [go_sem]) | (refine ⟨_,.given (hf:=h14) (hd:=rfl) (ha:=rfl),?_⟩;simp only [go_sem])));apply hK;clear hK K))
  simp only [go_sem]
 ·have hv2:=hv
  simp only [searchB,farSe,Bool.and_eq_true,Bool.not_eq_true',beq_iff_eq,Bool.or_eq_false_iff,Bool.and_eq_false_iff,decide_eq_false_iff_not] at hv2
  obtain ⟨_,⟨hfar,_⟩,hr⟩:=hv2
  obtain ⟨hg,hp,hlen,_,hbl,_⟩:=z121 hr
  have hl5:S.length≤5:=by omega
  obtain ⟨b,hb0⟩:∃ b,bases[0]?=some b:=⟨_,List.getElem?_eq_getElem (by omega)⟩
  have hbm:=List.mem_of_getElem? hb0
  have g0:(intRows bases)[0]?=some [.i b]:=by have:=z110 hb0;simpa using this
  obtain ⟨O,c,e1,e2,e3,e4,e5⟩:=z953 hr hbm hl5
  have h1:=z653 hr hbm
  have h21:=z1300 n p (allM n p) b (oneS b S) hs (.inl (by rw [z46];exact hl5)) (by rw [z46];exact hl) (fun _=>rfl) (fun _=>z1126 h1 (by rw [z46];exact hl5))
  rw [planD,e1] at h21
  dsimp only at h21
  have hcap1:S.length≤549755813888:=by omega
  have hcap2:0 + S.length≤549755813888:=by omega
  have hhd:=z821 S
  have hol:=z14 O
  have hol2:((oneS b S).map SpotT.row).length=S.length:=by rw [List.length_map,z46]
  have hwt:∀ i,i<S.length→(0≤(spotAt (oneS b S) i).wt∧(spotAt (oneS b S) i).wt≤100)∧(0≤(spotAt (oneS b S) i).se∧(spotAt (oneS b S) i).se≤600):=fun i hi=>by
   obtain ⟨_,_,_,hsp1,_,_⟩:=z121 h1
   have:=hsp1 (spotAt (oneS b S) i) (List.mem_of_getElem? (z50 (by rw [z46];exact hi)))
   exact this.2
  rw [hv] at h20
  rw [Net.cells] at *
  rw [SearchT.row] at *
  rw [Party.cells] at h21
  refine z10 111 Tryd.call5 Tryd.func5 rfl (by decide) fun J=>?_
  simp only [go_sem,St.start,Tryd.ntmps5,Tryd.results5,Net.cells,SearchT.row]
  repeat (first | refine nx ?_ | (refine z3 fun K hK=>?_;simp only [go_sem];(repeat (first | (refine ⟨_,.lent (hf:=h20) (hd:=rfl) (hr:=rfl),?_⟩;simp only [go_sem]) | (refine ⟨_,.given (hf:=h20) (hd:=rfl) (ha:=rfl),?_⟩;simp only [go_sem])));apply hK;clear hK K))
  refine z6 rfl ?_
  repeat (first | refine nx ?_ | (refine z3 fun K hK=>?_;simp only [go_sem,hsl,hcap1,hcap2,hhd,List.nil_append,List.length_nil,List.length_map];apply hK;clear hK K))
  refine z13 (fun (i:Nat)=>[(6,.d (.i i))]) (fun i=>[(18,some (.arr 59 3 (partS b S i)))]) (fun i=>i≤S.length) (fun i=>S.length - i) 0 ?_ (Nat.zero_le _) ?_
  ·simp only [go_sem,z961]
   refine weA ?_ ?_ <;> simp
  ·intro i hi
   have hpl:=z1043 b S i
   simp only [go_sem]
   repeat (first | refine nx ?_ | (refine z3 fun K hK=>?_;simp only [go_sem,hpl];apply hK;clear hK K))
   refine z5 rfl (fun hb=>?_) (fun hb=>?_)
   ·have hlt:i<S.length:=by simpa using hb
    have hw:IntKind.i64.wrap ((i:Int) + 1)=((i + 1:Nat):Int):=by rw [z9 (by omega)];simp
    obtain ⟨s,hsi⟩:∃ s,S[i]?=some s:=⟨_,List.getElem?_eq_getElem hlt⟩
    have g1:=z1044 (b:=b) hsi
    have g2:=z1042 (b:=b) hsi
    rw [SpotT.row] at g1 g2
    rw [oneT] at g2
    dsimp only at g2
    have nk:¬ ((i:Int)<0):=by omega
    have hb1:0<bases.length:=by omega
    repeat (first | refine nx ?_ | (refine z3 fun K hK=>?_;simp only [go_sem,g0,g1,nk,hpl,hlt,hrb,hb1,hw];apply hK;clear hK K))
    refine ⟨rfl,i + 1,?_,hlt,by omega⟩
    rw [← g2]
    try simp only [go_sem]
    refine weA ?_ ?_ <;> simp
   ·have he:i=S.length:=by (have:¬ i<S.length:=by simpa using hb);omega
    subst he
    rw [z1045]
    repeat (first | refine nx ?_ | (refine z3 fun K hK=>?_;simp only [go_sem];apply hK;clear hK K))
    refine z96 [18] ?_
    simp only [go_sem]
    have hb1:0<bases.length:=by omega
    have hc0:decide (c<0)=false:=decide_eq_false (by omega)
    have hne:((S.length:Int) != (S.length:Int))=false:=by simp
    refine z7 (by kernel_rfl) (by kernel_rfl) fun K hK=>?_
    simp only [go_sem,g0,hb1,hrb]
    refine ⟨_,.fn (hf:=h21) (hd:=rfl) (hr:=.inr rfl),?_⟩
    simp only [go_sem]
    refine ⟨by kernel_rfl,hK _ ?_⟩
    clear hK K
    repeat (first | refine nx ?_ | (refine z3 fun K hK=>?_;simp only [go_sem,hc0,hol,hol2,e3,hne,List.length_map,z46];apply hK;clear hK K))
    refine z6 (by rfl) ?_
    repeat (first | refine nx ?_ | (refine z3 fun K hK=>?_;simp only [go_sem];apply hK;clear hK K))
    refine z13 (fun (i:Nat)=>[(10,.d (.i i))]) (fun _=>[]) (fun i=>i≤S.length) (fun i=>S.length - i) 0 ?_ (Nat.zero_le _) ?_
    ·simp only [go_sem]
     refine weA ?_ ?_ <;> simp
    ·intro i hi
     simp only [go_sem]
     repeat (first | refine nx ?_ | (refine z3 fun K hK=>?_;simp only [go_sem,hol,e3];apply hK;clear hK K))
     refine z5 rfl (fun hb=>?_) (fun hb=>?_)
     ·have hlt:i<S.length:=by simpa using hb
      have hw:IntKind.i64.wrap ((i:Int) + 1)=((i + 1:Nat):Int):=by rw [z9 (by omega)];simp
      obtain ⟨v,hvi⟩:∃ v,O[i]?=some v:=⟨_,List.getElem?_eq_getElem (by omega)⟩
      obtain ⟨k,rfl,hk⟩:=e4 v (List.mem_of_getElem? hvi)
      have g3:=z110 hvi
      have nk:¬ ((i:Int)<0):=by omega
      have hd1:decide ((k:Int)<0)=false:=decide_eq_false (by omega)
      have hd2:decide ((k:Int) ≥ (S.length:Int))=false:=decide_eq_false (by omega)
      have nkk:¬ ((k:Int)<0):=by omega
      repeat (first | refine nx ?_ | (refine z3 fun K hK=>?_;simp only [go_sem,g3,nk,hol,e3,hlt,hd1,hd2,hol2,List.length_map,z46];apply hK;clear hK K))
      refine z6 rfl ?_
      cases i with
      | zero =>
       have hd3:decide (((0:Nat):Int) > 0)=false:=by decide
       repeat (first | refine nx ?_ | (refine z3 fun K hK=>?_;simp only [go_sem,hd3];apply hK;clear hK K))
       refine z6 rfl ?_
       have hw1:IntKind.i64.wrap 1=1:=by decide
       repeat (first | refine nx ?_ | (refine z3 fun K hK=>?_;simp only [go_sem,hw,hw1];apply hK;clear hK K))
       refine ⟨rfl,1,?_,hlt,by omega⟩
       try simp only [go_sem,hw1]
       refine z61 [] ?_ ?_ rfl rfl <;> simp [lessT,lessM,lessB,AV.less,hw1]
      | succ j =>
       have hd3:decide (((j + 1:Nat):Int) > 0)=true:=decide_eq_true (by omega)
       obtain ⟨u,huj⟩:∃ v,O[j]?=some v:=⟨_,List.getElem?_eq_getElem (by omega)⟩
       obtain ⟨q,rfl,hq⟩:=e4 u (List.mem_of_getElem? huj)
       have g4:=z110 huj
       have hlaw:=e5 j q k huj hvi
       have hwj:IntKind.i64.wrap (((j + 1:Nat):Int) - 1)=(j:Int):=by rw [z9 (by omega)];omega
       have gk:((oneS b S).map SpotT.row)[k]?=some (spotAt (oneS b S) k).row:=by rw [List.getElem?_map,z50 (by rw [z46];exact hk)];rfl
       have gq:((oneS b S).map SpotT.row)[q]?=some (spotAt (oneS b S) q).row:=by rw [List.getElem?_map,z50 (by rw [z46];exact hq)];rfl
       rw [SpotT.row] at gk gq
       have wk:=hwt k hk
       have wq:=hwt q hq
       obtain ⟨A,hA⟩:∃ A,A=spotAt (oneS b S) q:=⟨_,rfl⟩
       obtain ⟨B,hB⟩:∃ B,B=spotAt (oneS b S) k:=⟨_,rfl⟩
       rw [← hA] at gq wq hlaw
       rw [← hB] at gk wk hlaw
       have p1:0≤A.wt * B.se:=Int.mul_nonneg wq.1.1 wk.2.1
       have p2:A.wt * B.se≤100 * 600:=Int.mul_le_mul wq.1.2 wk.2.2 wk.2.1 (by decide)
       have p3:0≤B.wt * A.se:=Int.mul_nonneg wk.1.1 wq.2.1
       have p4:B.wt * A.se≤100 * 600:=Int.mul_le_mul wk.1.2 wq.2.2 wq.2.1 (by decide)
       have w1:IntKind.i64.wrap (A.wt * B.se)=A.wt * B.se:=z9 (by omega)
       have w2:IntKind.i64.wrap (B.wt * A.se)=B.wt * A.se:=z9 (by omega)
       have hd4:decide (A.wt * B.se<B.wt * A.se)=false:=decide_eq_false (by omega)
       have nj:¬ ((j:Int)<0):=by omega
       have nq:¬ ((q:Int)<0):=by omega
       have ljs:j<S.length:=by omega
       repeat (first | refine nx ?_ | (refine z3 fun K hK=>?_;simp only [go_sem,hd3];apply hK;clear hK K))
       refine z11 rfl ?_
       repeat (first | refine nx ?_ | (refine z3 fun K hK=>?_;simp only [go_sem];apply hK;clear hK K))
       refine z7 (by kernel_rfl) (by kernel_rfl) fun K hK=>?_
       simp only [go_sem,hwj,g3,g4,nk,nj,nq,nkk,ljs,hlt,hol,e3,gk,gq,hk,hq,hol2,List.length_map,z46]
       refine ⟨by kernel_rfl,hK _ ?_⟩
       clear hK K
       repeat (first | refine nx ?_ | (refine z3 fun K hK=>?_;simp only [go_sem,w1,w2,hd4];apply hK;clear hK K))
       refine z6 rfl ?_
       repeat (first | refine nx ?_ | (refine z3 fun K hK=>?_;simp only [go_sem,hw];apply hK;clear hK K))
       refine ⟨rfl,j + 1 + 1,?_,hlt,by omega⟩
       try simp only [go_sem]
       refine weA ?_ ?_ <;> simp
     ·have he:i=S.length:=by (have:¬ i<S.length:=by simpa using hb);omega
      subst he
      repeat (first | refine nx ?_ | (refine z3 fun K hK=>?_;simp only [go_sem];(repeat (first | (refine ⟨_,.lent (hf:=h14) (hd:=rfl) (hr:=rfl),?_⟩;simp only [go_sem]) | (refine ⟨_,.given (hf:=h14) (hd:=rfl) (ha:=rfl),?_⟩;simp only [go_sem])));apply hK;clear hK K))
      simp only [go_sem]
end Go.Ab
namespace Go.Ab
open Go.RowKit Go.Proofs Go.ChangeShapes Go.WideShapes Go.Proofs.YtfkbbaagifpjpaaDoor
set_option linter.unusedVariables false
set_option maxRecDepth 100000
def spotS:List Sh:=[iS,iS,iS]
def searchS:List Sh:=[iS,iS,iS,iS,.sl [iS],.sl spotS,iS]
theorem z1177 {N:Nat} {r:List DV} (h:Sh.fitsL N spotS r):∃ x:SpotT,r=x.row∧True:=by
 simp only [spotS,iS,Sh.fitsL,Sh.fits] at h
 obtain ⟨_,_,rfl,⟨a,rfl,_⟩,_,_,rfl,⟨b,rfl,_⟩,_,_,rfl,⟨c,rfl,_⟩,rfl⟩:=h
 exact ⟨⟨a,b,c⟩,rfl,trivial⟩
theorem z1028 {N:Nat} (hN:N<2 ^ 30) {r:List DV} (h:Sh.fitsL N searchS r):∃ x:SearchT,r=x.row∧x.bases.length<2 ^ 30∧x.spots.length<2 ^ 30:=by
 simp only [searchS] at h
 simp only [iS,Sh.fitsL,Sh.fits] at h
 obtain ⟨_,_,rfl,⟨a,rfl,_⟩,_,_,rfl,⟨b,rfl,_⟩,_,_,rfl,⟨c,rfl,_⟩,_,_,rfl,⟨d,rfl,_⟩,_,_,rfl,⟨rows,rfl,hl,hr⟩,_,_,rfl,⟨rows2,rfl,hl2,hr2⟩,_,_,rfl,⟨e,rfl,_⟩,rfl⟩:=h
 obtain ⟨l,rfl,_⟩:=z316 (row:=fun i:Int=>[DV.i i]) (fun r h=>z1233 (N:=N) (by simp only [iS,Sh.fitsL,Sh.fits];exact hr r h))
 obtain ⟨S,rfl,_⟩:=z316 (fun r h=>z1177 (hr2 r h))
 have e1:l.length≤N:=by simpa using hl
 have e2:S.length≤N:=by simpa using hl2
 exact ⟨⟨⟨a,b,⟨c,d⟩⟩,l,S,e⟩,rfl,by show l.length<2 ^ 30;omega,by show S.length<2 ^ 30;omega⟩
theorem z1111:shapes Tryd.prog 20 56=some searchS:=by kernel_rfl
theorem z1121:Rd 56 (fun x=>∃ y:SearchT,x=.agg y.row∧y.bases.length<2 ^ 30∧y.spots.length<2 ^ 30) :=
 ⟨by kernel_rfl,of_decide_eq_true (by kernel_rfl),fun H enc w base v d ps hok h hd=>by
  obtain ⟨e0,hf0,r0⟩:=z895 z1111 (by decide) h hd
  obtain ⟨x,rfl,hx⟩:=z1028 (by decide) hf0
  exact ⟨_,⟨x,rfl,hx⟩,r0⟩⟩
abbrev aS:TypeId × (DV→Prop):=(56,fun x=>∃ y:SearchT,x=.agg y.row∧y.bases.length<2 ^ 30∧y.spots.length<2 ^ 30)
end Go.Ab
